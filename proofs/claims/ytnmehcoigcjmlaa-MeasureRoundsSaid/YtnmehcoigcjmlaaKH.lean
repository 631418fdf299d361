/- What the ratio functions of the program come to: quotient, Of, Norm, Cmp, Neg, Add, Sub, Mul, Div.
What the ratio functions of the program come to: Floor, Round, Text, Parse.
What the reference's ratio functions come to: reduce, Whole, Zero, Sign, Of, Norm, Cmp, Neg, Add, Sub, Mul, Div.
What the reference's ratio functions come to: Floor, Round, Text, Parse, Same, Light.
The laws' common parts for integers: their arguments, short, the examples.
The laws' common parts for ratios: their arguments, light, the examples.
The laws' common parts for ratios: small numbers, sizes. -/
import Derived.Test.YtnmehcoigcjmlaaKE
import Derived.Test.YtnmehcoigcjmlaaKG
import Derived.Test.YtnmehcoigcjmlaaKC
import Derived.Test.YtnmehcoigcjmlaaKF

set_option linter.unusedSimpArgs false
set_option linter.unusedVariables false
namespace Go.Proofs.Ytnmehcoigcjmlaa.V
open Go Go.Proofs.Ytnmehcoigcjmlaa.M
theorem one_ev : Ev (fun k => (lvl tab ext k).call 34 [(.pv (.int .u64 (1)))]) [(.own (.ints .u32 ([1])))] := by
  have := of_ev (a := 1) (by decide) (by decide)
  rwa [show (1 : Int).toNat = 1 from rfl, one_ofN] at this
theorem quotient_ev {p : PV} {z : Int} {d : List Int} (hp : IsZ p z) (hd : Lim d) (sd : d.length ≤ 1000000) : Ev (fun k => (lvl tab ext k).call 46 [.pv p, (.pv (.ints .u32 (d)))]) [.pv (ofQ (mkRat z (val d)))] := by
  have h1 := znorm_ev hp
  have h2 := norm_ev hd (by omega)
  have l2 := len_val_le hd
  obtain ⟨b, l, rfl, hl, hs, rfl⟩ := hp
  have sz : (absL (iv b l)).length ≤ 1000000 := sz_iv hl hs
  generalize iv b l = z at *
  generalize val d = D at *
  by_cases h0 : D = 0
  · subst h0
    rw [Rat.mkRat_zero, ofQ_zero]
    rw [ofN_zero] at h2
    refine Ev.call rfl tab46 ?_
    simp -implicitDefEqProofs (disch := omega) only [F46, go_sem, ↓reduceIte, reduceCtorEq, Nat.reduceAdd, Nat.reduceSub, Nat.reduceEqDiff, Nat.reduceLeDiff, Nat.reduceBEq]
    (refine Ev.bind (h1) ?_; simp -implicitDefEqProofs (disch := omega) only [go_sem, ↓reduceIte, reduceCtorEq, Nat.reduceAdd, Nat.reduceSub, Nat.reduceEqDiff, Nat.reduceLeDiff, Nat.reduceBEq]; refine Ev.bind (h2) ?_; simp -implicitDefEqProofs (disch := omega) only [go_sem, ↓reduceIte, reduceCtorEq, Nat.reduceAdd, Nat.reduceSub, Nat.reduceEqDiff, Nat.reduceLeDiff, Nat.reduceBEq]; refine Ev.bind (one_ev) ?_; simp -implicitDefEqProofs (disch := omega) only [go_sem, ↓reduceIte, reduceCtorEq, Nat.reduceAdd, Nat.reduceSub, Nat.reduceEqDiff, Nat.reduceLeDiff, Nat.reduceBEq])
    exact Ev.ret _
  · have hD : 0 < (ofN D).length := ofN_length_pos.2 (by omega)
    by_cases hz : z = 0
    · subst hz
      rw [Rat.zero_mkRat, ofQ_zero]
      rw [ofZ_nil] at h1
      refine Ev.call rfl tab46 ?_
      simp -implicitDefEqProofs (disch := omega) only [F46, go_sem, ↓reduceIte, reduceCtorEq, Nat.reduceAdd, Nat.reduceSub, Nat.reduceEqDiff, Nat.reduceLeDiff, Nat.reduceBEq]
      (refine Ev.bind (h1) ?_; simp -implicitDefEqProofs (disch := omega) only [go_sem, ↓reduceIte, reduceCtorEq, Nat.reduceAdd, Nat.reduceSub, Nat.reduceEqDiff, Nat.reduceLeDiff, Nat.reduceBEq]; refine Ev.bind (h2) ?_; simp -implicitDefEqProofs (disch := omega) only [go_sem, ↓reduceIte, reduceCtorEq, Nat.reduceAdd, Nat.reduceSub, Nat.reduceEqDiff, Nat.reduceLeDiff, Nat.reduceBEq]; refine Ev.bind (one_ev) ?_; simp -implicitDefEqProofs (disch := omega) only [go_sem, ↓reduceIte, reduceCtorEq, Nat.reduceAdd, Nat.reduceSub, Nat.reduceEqDiff, Nat.reduceLeDiff, Nat.reduceBEq])
      exact Ev.ret _
    · have ha := abs_pos hz
      have hg := gcd_ev (lim_abs z) (lim_ofN D) (by omega) (by omega)
      rw [val_abs, val_ofN] at hg
      have hG : Nat.gcd z.natAbs D ≠ 0 := by have := Nat.gcd_pos_of_pos_right z.natAbs (Nat.pos_of_ne_zero h0); omega
      have lG := len_mono (Nat.gcd_le_right z.natAbs (Nat.pos_of_ne_zero h0))
      rw [ofQ_mk z h0]
      generalize Nat.gcd z.natAbs D = G at *
      obtain ⟨o1, d1⟩ := divmod_ev (lim_abs z) (lim_ofN G) (by omega) (by omega) (by rw [val_ofN]; exact hG)
      obtain ⟨o2, d2⟩ := divmod_ev (lim_ofN D) (lim_ofN G) (by omega) (by omega) (by rw [val_ofN]; exact hG)
      rw [val_abs, val_ofN] at d1
      rw [val_ofN, val_ofN] at d2
      refine Ev.call rfl tab46 ?_
      simp -implicitDefEqProofs (disch := omega) only [F46, go_sem, ↓reduceIte, reduceCtorEq, Nat.reduceAdd, Nat.reduceSub, Nat.reduceEqDiff, Nat.reduceLeDiff, Nat.reduceBEq]
      (refine Ev.bind (h1) ?_; simp -implicitDefEqProofs (disch := omega) only [go_sem, ↓reduceIte, reduceCtorEq, Nat.reduceAdd, Nat.reduceSub, Nat.reduceEqDiff, Nat.reduceLeDiff, Nat.reduceBEq]; refine Ev.bind (h2) ?_; simp -implicitDefEqProofs (disch := omega) only [go_sem, ↓reduceIte, reduceCtorEq, Nat.reduceAdd, Nat.reduceSub, Nat.reduceEqDiff, Nat.reduceLeDiff, Nat.reduceBEq]; refine Ev.bind (hg) ?_; simp -implicitDefEqProofs (disch := omega) only [go_sem, ↓reduceIte, reduceCtorEq, Nat.reduceAdd, Nat.reduceSub, Nat.reduceEqDiff, Nat.reduceLeDiff, Nat.reduceBEq]; refine Ev.bind (d1) ?_; simp -implicitDefEqProofs (disch := omega) only [go_sem, ↓reduceIte, reduceCtorEq, Nat.reduceAdd, Nat.reduceSub, Nat.reduceEqDiff, Nat.reduceLeDiff, Nat.reduceBEq]; refine Ev.bind (d2) ?_; simp -implicitDefEqProofs (disch := omega) only [go_sem, ↓reduceIte, reduceCtorEq, Nat.reduceAdd, Nat.reduceSub, Nat.reduceEqDiff, Nat.reduceLeDiff, Nat.reduceBEq])
      exact Ev.ret _
theorem qnorm_ev {p : PV} {r : Rat} (hp : IsQ p r) : Ev (fun k => (lvl tab ext k).call 40 [.pv p]) [.pv (ofQ r)] := by
  obtain ⟨b, l, d, rfl, hl, hd, h1, h2, rfl⟩ := hp
  have q := quotient_ev (isZ_mk (b := b) hl (by omega)) hd (by omega)
  unfold rv
  generalize mkRat (iv b l) (val d) = r at *
  refine Ev.call rfl tab40 ?_
  simp -implicitDefEqProofs (disch := omega) only [F40, go_sem, ↓reduceIte, reduceCtorEq, Nat.reduceAdd, Nat.reduceSub, Nat.reduceEqDiff, Nat.reduceLeDiff, Nat.reduceBEq]
  (refine Ev.bind (q) ?_; simp -implicitDefEqProofs (disch := omega) only [go_sem, ↓reduceIte, reduceCtorEq, Nat.reduceAdd, Nat.reduceSub, Nat.reduceEqDiff, Nat.reduceLeDiff, Nat.reduceBEq])
  exact Ev.ret _
theorem qof_ev {n d : Int} (hn : Fits n) (hd : Fits d) (h0 : d ≠ 0) : Ev (fun k => (lvl tab ext k).call 17 [(.pv (.int .i64 (n))), (.pv (.int .i64 (d)))]) [.pv (ofQ (Rat.divInt n d)), (.pv (.bool (true)))] := by
  have o1 := zof_ev hn.1 hn.2
  have o2 := zof_ev hd.1 hd.2
  have sn : Sz 2 n := sz_int (by have := hn.1; omega) (by have := hn.2; omega)
  have sd : Sz 2 d := sz_int (by have := hd.1; omega) (by have := hd.2; omega)
  have hl : (absL d).length ≤ 2 := sd
  by_cases hneg : d < 0
  · have e1 : sgnB d = true := decide_eq_true hneg
    have g := zneg_ev (isZ_of (sz_mono sn (by decide)))
    have q := quotient_ev (isZ_of (sz_neg (sz_mono sn (by decide)))) (lim_abs d) (by omega)
    rw [val_abs, ← Rat.divInt_ofNat, show ((d.natAbs : Nat) : Int) = -d by omega, Rat.neg_divInt_neg] at q
    generalize Rat.divInt n d = r at *
    refine Ev.call rfl tab17 ?_
    simp -implicitDefEqProofs (disch := omega) only [F17, go_sem, ↓reduceIte, reduceCtorEq, Nat.reduceAdd, Nat.reduceSub, Nat.reduceEqDiff, Nat.reduceLeDiff, Nat.reduceBEq]
    (refine Ev.bind (o1) ?_; simp -implicitDefEqProofs (disch := omega) only [go_sem, ↓reduceIte, reduceCtorEq, Nat.reduceAdd, Nat.reduceSub, Nat.reduceEqDiff, Nat.reduceLeDiff, Nat.reduceBEq])
    refine Ev.bind o2 ?_
    simp -implicitDefEqProofs (disch := omega) only [e1, go_sem, ↓reduceIte, reduceCtorEq, Nat.reduceAdd, Nat.reduceSub, Nat.reduceEqDiff, Nat.reduceLeDiff, Nat.reduceBEq]
    (refine Ev.bind (g) ?_; simp -implicitDefEqProofs (disch := omega) only [go_sem, ↓reduceIte, reduceCtorEq, Nat.reduceAdd, Nat.reduceSub, Nat.reduceEqDiff, Nat.reduceLeDiff, Nat.reduceBEq]; refine Ev.bind (q) ?_; simp -implicitDefEqProofs (disch := omega) only [go_sem, ↓reduceIte, reduceCtorEq, Nat.reduceAdd, Nat.reduceSub, Nat.reduceEqDiff, Nat.reduceLeDiff, Nat.reduceBEq])
    exact Ev.ret _
  · have e1 : sgnB d = false := decide_eq_false hneg
    have q := quotient_ev (isZ_of (sz_mono sn (by decide))) (lim_abs d) (by omega)
    rw [val_abs, ← Rat.divInt_ofNat, show ((d.natAbs : Nat) : Int) = d by omega] at q
    generalize Rat.divInt n d = r at *
    refine Ev.call rfl tab17 ?_
    simp -implicitDefEqProofs (disch := omega) only [F17, go_sem, ↓reduceIte, reduceCtorEq, Nat.reduceAdd, Nat.reduceSub, Nat.reduceEqDiff, Nat.reduceLeDiff, Nat.reduceBEq]
    (refine Ev.bind (o1) ?_; simp -implicitDefEqProofs (disch := omega) only [go_sem, ↓reduceIte, reduceCtorEq, Nat.reduceAdd, Nat.reduceSub, Nat.reduceEqDiff, Nat.reduceLeDiff, Nat.reduceBEq])
    refine Ev.bind o2 ?_
    simp -implicitDefEqProofs (disch := omega) only [e1, go_sem, ↓reduceIte, reduceCtorEq, Nat.reduceAdd, Nat.reduceSub, Nat.reduceEqDiff, Nat.reduceLeDiff, Nat.reduceBEq]
    (refine Ev.bind (q) ?_; simp -implicitDefEqProofs (disch := omega) only [go_sem, ↓reduceIte, reduceCtorEq, Nat.reduceAdd, Nat.reduceSub, Nat.reduceEqDiff, Nat.reduceLeDiff, Nat.reduceBEq])
    exact Ev.ret _
theorem qof0_ev {n : Int} : Ev (fun k => (lvl tab ext k).call 17 [(.pv (.int .i64 (n))), (.pv (.int .i64 (0)))]) [.pv (.agg [.bool false, .ints .u32 [], .ints .u32 []]), (.pv (.bool (false)))] := by
  refine Ev.call rfl tab17 ?_
  simp -implicitDefEqProofs (disch := omega) only [F17, go_sem, ↓reduceIte, reduceCtorEq, Nat.reduceAdd, Nat.reduceSub, Nat.reduceEqDiff, Nat.reduceLeDiff, Nat.reduceBEq]
  exact Ev.ret _
theorem whole_ev {l : List Int} : Ev (fun k => (lvl tab ext k).call 43 [(.pv (.ints .u32 (l)))]) [.pv (.agg [.bool false, .ints .u32 l])] := by
  refine Ev.call rfl tab43 ?_
  simp -implicitDefEqProofs (disch := omega) only [F43, go_sem, ↓reduceIte, reduceCtorEq, Nat.reduceAdd, Nat.reduceSub, Nat.reduceEqDiff, Nat.reduceLeDiff, Nat.reduceBEq]
  exact Ev.ret _
theorem isZ_den {r : Rat} (h : Qz 1000000 r) : IsZ (.agg [.bool false, .ints .u32 (denL r)]) (r.den : Int) := ⟨false, denL r, rfl, lim_den r, h.2, by rw [iv_false, val_den]⟩
theorem isZ_num {r : Rat} (h : Qz 1000000 r) : IsZ (ofZ r.num) r.num := isZ_of h.1
theorem qcmp_ev {p q : PV} {r s : Rat} (hp : IsQ p r) (hq : IsQ q s) : Ev (fun k => (lvl tab ext k).call 15 [.pv p, .pv q]) [(.pv (.int .i64 (rcmp r s)))] := by
  have n1 := qnorm_ev hp
  have n2 := qnorm_ev hq
  have m1 := zmul_ev (isZ_num hp.qz6) (isZ_den hq.qz6)
  have m2 := zmul_ev (isZ_num hq.qz6) (isZ_den hp.qz6)
  have z1 := sz_mul (qz_num hp.qz) (qz_den hq.qz)
  have z2 := sz_mul (qz_num hq.qz) (qz_den hp.qz)
  have c := zcmp_ev (isZ_of (sz_mono z1 (by decide))) (isZ_of (sz_mono z2 (by decide)))
  obtain ⟨b, l, d, rfl, hl, hd, h1, h2, rfl⟩ := hp
  obtain ⟨b', l', d', rfl, hl', hd', h1', h2', rfl⟩ := hq
  generalize rv b l d = r at *
  generalize rv b' l' d' = s at *
  refine Ev.call rfl tab15 ?_
  simp -implicitDefEqProofs (disch := omega) only [F15, go_sem, ↓reduceIte, reduceCtorEq, Nat.reduceAdd, Nat.reduceSub, Nat.reduceEqDiff, Nat.reduceLeDiff, Nat.reduceBEq]
  (refine Ev.bind (n1) ?_; simp -implicitDefEqProofs (disch := omega) only [go_sem, ↓reduceIte, reduceCtorEq, Nat.reduceAdd, Nat.reduceSub, Nat.reduceEqDiff, Nat.reduceLeDiff, Nat.reduceBEq]; refine Ev.bind (n2) ?_; simp -implicitDefEqProofs (disch := omega) only [go_sem, ↓reduceIte, reduceCtorEq, Nat.reduceAdd, Nat.reduceSub, Nat.reduceEqDiff, Nat.reduceLeDiff, Nat.reduceBEq]; refine Ev.bind (whole_ev) ?_; simp -implicitDefEqProofs (disch := omega) only [go_sem, ↓reduceIte, reduceCtorEq, Nat.reduceAdd, Nat.reduceSub, Nat.reduceEqDiff, Nat.reduceLeDiff, Nat.reduceBEq]; refine Ev.bind (m1) ?_; simp -implicitDefEqProofs (disch := omega) only [go_sem, ↓reduceIte, reduceCtorEq, Nat.reduceAdd, Nat.reduceSub, Nat.reduceEqDiff, Nat.reduceLeDiff, Nat.reduceBEq]; refine Ev.bind (whole_ev) ?_; simp -implicitDefEqProofs (disch := omega) only [go_sem, ↓reduceIte, reduceCtorEq, Nat.reduceAdd, Nat.reduceSub, Nat.reduceEqDiff, Nat.reduceLeDiff, Nat.reduceBEq]; refine Ev.bind (m2) ?_; simp -implicitDefEqProofs (disch := omega) only [go_sem, ↓reduceIte, reduceCtorEq, Nat.reduceAdd, Nat.reduceSub, Nat.reduceEqDiff, Nat.reduceLeDiff, Nat.reduceBEq]; refine Ev.bind (c) ?_; simp -implicitDefEqProofs (disch := omega) only [go_sem, ↓reduceIte, reduceCtorEq, Nat.reduceAdd, Nat.reduceSub, Nat.reduceEqDiff, Nat.reduceLeDiff, Nat.reduceBEq])
  exact Ev.ret _
theorem qneg_ev {p : PV} {r : Rat} (hp : IsQ p r) : Ev (fun k => (lvl tab ext k).call 16 [.pv p]) [.pv (ofQ (-r))] := by
  have n1 := qnorm_ev hp
  have g := zneg_ev (isZ_num hp.qz6)
  obtain ⟨b, l, d, rfl, hl, hd, h1, h2, rfl⟩ := hp
  generalize rv b l d = r at *
  refine Ev.call rfl tab16 ?_
  simp -implicitDefEqProofs (disch := omega) only [F16, go_sem, ↓reduceIte, reduceCtorEq, Nat.reduceAdd, Nat.reduceSub, Nat.reduceEqDiff, Nat.reduceLeDiff, Nat.reduceBEq]
  (refine Ev.bind (n1) ?_; simp -implicitDefEqProofs (disch := omega) only [go_sem, ↓reduceIte, reduceCtorEq, Nat.reduceAdd, Nat.reduceSub, Nat.reduceEqDiff, Nat.reduceLeDiff, Nat.reduceBEq]; refine Ev.bind (g) ?_; simp -implicitDefEqProofs (disch := omega) only [go_sem, ↓reduceIte, reduceCtorEq, Nat.reduceAdd, Nat.reduceSub, Nat.reduceEqDiff, Nat.reduceLeDiff, Nat.reduceBEq])
  exact Ev.ret _
theorem den_mul {r s : Rat} (h1 : Qz 100000 r) (h2 : Qz 100000 s) : Ev (fun k => (lvl tab ext k).call 47 [(.pv (.ints .u32 (denL r))), (.pv (.ints .u32 (denL s)))]) [(.own (.ints .u32 (ofN (r.den * s.den))))] := by
  have := mul_ev (lim_den r) (lim_den s) (by have : (denL r).length ≤ 100000 := h1.2; have : (denL s).length ≤ 100000 := h2.2; omega)
  rwa [val_den, val_den] at this
theorem len_den {r s : Rat} (h1 : Qz 100000 r) (h2 : Qz 100000 s) : (ofN (r.den * s.den)).length ≤ 200000 := Nat.le_trans (len_mul _ _) (Nat.add_le_add h1.2 h2.2)
theorem qadd_ev {p q : PV} {r s : Rat} (hp : IsQ p r) (hq : IsQ q s) : Ev (fun k => (lvl tab ext k).call 20 [.pv p, .pv q]) [.pv (ofQ (r + s))] := by
  have n1 := qnorm_ev hp
  have n2 := qnorm_ev hq
  have m1 := zmul_ev (isZ_num hp.qz6) (isZ_den hq.qz6)
  have m2 := zmul_ev (isZ_num hq.qz6) (isZ_den hp.qz6)
  have z1 := sz_mul (qz_num hp.qz) (qz_den hq.qz)
  have z2 := sz_mul (qz_num hq.qz) (qz_den hp.qz)
  have a := zadd_ev (isZ_of (sz_mono z1 (by decide))) (isZ_of (sz_mono z2 (by decide)))
  have dm := den_mul hp.qz hq.qz
  have ld := len_den hp.qz hq.qz
  have qq := quotient_ev (isZ_of (sz_mono (sz_add z1 z2) (by decide))) (lim_ofN (r.den * s.den)) (by omega)
  rw [val_ofN, ← Rat.add_def'] at qq
  obtain ⟨b, l, d, rfl, hl, hd, h1, h2, rfl⟩ := hp
  obtain ⟨b', l', d', rfl, hl', hd', h1', h2', rfl⟩ := hq
  generalize rv b l d = r at *
  generalize rv b' l' d' = s at *
  generalize r + s = t at *
  refine Ev.call rfl tab20 ?_
  simp -implicitDefEqProofs (disch := omega) only [F20, go_sem, ↓reduceIte, reduceCtorEq, Nat.reduceAdd, Nat.reduceSub, Nat.reduceEqDiff, Nat.reduceLeDiff, Nat.reduceBEq]
  (refine Ev.bind (n1) ?_; simp -implicitDefEqProofs (disch := omega) only [go_sem, ↓reduceIte, reduceCtorEq, Nat.reduceAdd, Nat.reduceSub, Nat.reduceEqDiff, Nat.reduceLeDiff, Nat.reduceBEq]; refine Ev.bind (n2) ?_; simp -implicitDefEqProofs (disch := omega) only [go_sem, ↓reduceIte, reduceCtorEq, Nat.reduceAdd, Nat.reduceSub, Nat.reduceEqDiff, Nat.reduceLeDiff, Nat.reduceBEq]; refine Ev.bind (whole_ev) ?_; simp -implicitDefEqProofs (disch := omega) only [go_sem, ↓reduceIte, reduceCtorEq, Nat.reduceAdd, Nat.reduceSub, Nat.reduceEqDiff, Nat.reduceLeDiff, Nat.reduceBEq]; refine Ev.bind (m1) ?_; simp -implicitDefEqProofs (disch := omega) only [go_sem, ↓reduceIte, reduceCtorEq, Nat.reduceAdd, Nat.reduceSub, Nat.reduceEqDiff, Nat.reduceLeDiff, Nat.reduceBEq]; refine Ev.bind (whole_ev) ?_; simp -implicitDefEqProofs (disch := omega) only [go_sem, ↓reduceIte, reduceCtorEq, Nat.reduceAdd, Nat.reduceSub, Nat.reduceEqDiff, Nat.reduceLeDiff, Nat.reduceBEq]; refine Ev.bind (m2) ?_; simp -implicitDefEqProofs (disch := omega) only [go_sem, ↓reduceIte, reduceCtorEq, Nat.reduceAdd, Nat.reduceSub, Nat.reduceEqDiff, Nat.reduceLeDiff, Nat.reduceBEq]; refine Ev.bind (a) ?_; simp -implicitDefEqProofs (disch := omega) only [go_sem, ↓reduceIte, reduceCtorEq, Nat.reduceAdd, Nat.reduceSub, Nat.reduceEqDiff, Nat.reduceLeDiff, Nat.reduceBEq]; refine Ev.bind (dm) ?_; simp -implicitDefEqProofs (disch := omega) only [go_sem, ↓reduceIte, reduceCtorEq, Nat.reduceAdd, Nat.reduceSub, Nat.reduceEqDiff, Nat.reduceLeDiff, Nat.reduceBEq]; refine Ev.bind (qq) ?_; simp -implicitDefEqProofs (disch := omega) only [go_sem, ↓reduceIte, reduceCtorEq, Nat.reduceAdd, Nat.reduceSub, Nat.reduceEqDiff, Nat.reduceLeDiff, Nat.reduceBEq])
  exact Ev.ret _
theorem qsub_ev {p q : PV} {r s : Rat} (hp : IsQ p r) (hq : IsQ q s) : Ev (fun k => (lvl tab ext k).call 21 [.pv p, .pv q]) [.pv (ofQ (r - s))] := by
  have g := qneg_ev hq
  have a := qadd_ev hp (isQ_of (qz_neg hq.qz))
  rw [← Rat.sub_eq_add_neg] at a
  obtain ⟨b, l, d, rfl, hl, hd, h1, h2, rfl⟩ := hp
  obtain ⟨b', l', d', rfl, hl', hd', h1', h2', rfl⟩ := hq
  generalize rv b l d = r at *
  generalize rv b' l' d' = s at *
  generalize r - s = t at *
  generalize -s = s' at *
  refine Ev.call rfl tab21 ?_
  simp -implicitDefEqProofs (disch := omega) only [F21, go_sem, ↓reduceIte, reduceCtorEq, Nat.reduceAdd, Nat.reduceSub, Nat.reduceEqDiff, Nat.reduceLeDiff, Nat.reduceBEq]
  (refine Ev.bind (g) ?_; simp -implicitDefEqProofs (disch := omega) only [go_sem, ↓reduceIte, reduceCtorEq, Nat.reduceAdd, Nat.reduceSub, Nat.reduceEqDiff, Nat.reduceLeDiff, Nat.reduceBEq]; refine Ev.bind (a) ?_; simp -implicitDefEqProofs (disch := omega) only [go_sem, ↓reduceIte, reduceCtorEq, Nat.reduceAdd, Nat.reduceSub, Nat.reduceEqDiff, Nat.reduceLeDiff, Nat.reduceBEq])
  exact Ev.ret _
theorem qmul_ev {p q : PV} {r s : Rat} (hp : IsQ p r) (hq : IsQ q s) : Ev (fun k => (lvl tab ext k).call 18 [.pv p, .pv q]) [.pv (ofQ (r * s))] := by
  have n1 := qnorm_ev hp
  have n2 := qnorm_ev hq
  have m1 := zmul_ev (isZ_num hp.qz6) (isZ_num hq.qz6)
  have z1 := sz_mul (qz_num hp.qz) (qz_num hq.qz)
  have dm := den_mul hp.qz hq.qz
  have ld := len_den hp.qz hq.qz
  have qq := quotient_ev (isZ_of (sz_mono z1 (by decide))) (lim_ofN (r.den * s.den)) (by omega)
  rw [val_ofN, ← Rat.mul_def'] at qq
  obtain ⟨b, l, d, rfl, hl, hd, h1, h2, rfl⟩ := hp
  obtain ⟨b', l', d', rfl, hl', hd', h1', h2', rfl⟩ := hq
  generalize rv b l d = r at *
  generalize rv b' l' d' = s at *
  generalize r * s = t at *
  refine Ev.call rfl tab18 ?_
  simp -implicitDefEqProofs (disch := omega) only [F18, go_sem, ↓reduceIte, reduceCtorEq, Nat.reduceAdd, Nat.reduceSub, Nat.reduceEqDiff, Nat.reduceLeDiff, Nat.reduceBEq]
  (refine Ev.bind (n1) ?_; simp -implicitDefEqProofs (disch := omega) only [go_sem, ↓reduceIte, reduceCtorEq, Nat.reduceAdd, Nat.reduceSub, Nat.reduceEqDiff, Nat.reduceLeDiff, Nat.reduceBEq]; refine Ev.bind (n2) ?_; simp -implicitDefEqProofs (disch := omega) only [go_sem, ↓reduceIte, reduceCtorEq, Nat.reduceAdd, Nat.reduceSub, Nat.reduceEqDiff, Nat.reduceLeDiff, Nat.reduceBEq]; refine Ev.bind (m1) ?_; simp -implicitDefEqProofs (disch := omega) only [go_sem, ↓reduceIte, reduceCtorEq, Nat.reduceAdd, Nat.reduceSub, Nat.reduceEqDiff, Nat.reduceLeDiff, Nat.reduceBEq]; refine Ev.bind (dm) ?_; simp -implicitDefEqProofs (disch := omega) only [go_sem, ↓reduceIte, reduceCtorEq, Nat.reduceAdd, Nat.reduceSub, Nat.reduceEqDiff, Nat.reduceLeDiff, Nat.reduceBEq]; refine Ev.bind (qq) ?_; simp -implicitDefEqProofs (disch := omega) only [go_sem, ↓reduceIte, reduceCtorEq, Nat.reduceAdd, Nat.reduceSub, Nat.reduceEqDiff, Nat.reduceLeDiff, Nat.reduceBEq])
  exact Ev.ret _
theorem inv_rv {s : Rat} (hs : s ≠ 0) : rv (sgnB s.num) (denL s) (absL s.num) = s⁻¹ := by
  rw [inv_mk]
  unfold rv
  rw [val_abs]
  congr 1
  unfold sgnB iv
  rw [val_den]
  by_cases h : s.num < 0
  · rw [decide_eq_true h, if_pos rfl, if_pos h]
  · rw [decide_eq_false h, if_neg (by decide), if_neg h]
theorem num_ne {s : Rat} (hs : s ≠ 0) : s.num ≠ 0 := fun h => hs (Rat.num_eq_zero.1 h)
theorem qdiv_ev {p q : PV} {r s : Rat} (hp : IsQ p r) (hq : IsQ q s) (hs : s ≠ 0) : Ev (fun k => (lvl tab ext k).call 30 [.pv p, .pv q]) [.pv (ofQ (r / s)), (.pv (.bool (true)))] := by
  have n2 := qnorm_ev hq
  have ha := abs_pos (num_ne hs)
  have ii : IsQ (.agg [.bool (sgnB s.num), .ints .u32 (denL s), .ints .u32 (absL s.num)]) s⁻¹ := ⟨_, _, _, rfl, lim_den s, lim_abs _, hq.qz.2, hq.qz.1, inv_rv hs⟩
  have m := qmul_ev hp ii
  rw [← Rat.div_def] at m
  obtain ⟨b, l, d, rfl, hl, hd, h1, h2, rfl⟩ := hp
  obtain ⟨b', l', d', rfl, hl', hd', h1', h2', rfl⟩ := hq
  generalize rv b l d = r at *
  generalize rv b' l' d' = s at *
  generalize r / s = t at *
  refine Ev.call rfl tab30 ?_
  simp -implicitDefEqProofs (disch := omega) only [F30, go_sem, ↓reduceIte, reduceCtorEq, Nat.reduceAdd, Nat.reduceSub, Nat.reduceEqDiff, Nat.reduceLeDiff, Nat.reduceBEq]
  (refine Ev.bind (n2) ?_; simp -implicitDefEqProofs (disch := omega) only [go_sem, ↓reduceIte, reduceCtorEq, Nat.reduceAdd, Nat.reduceSub, Nat.reduceEqDiff, Nat.reduceLeDiff, Nat.reduceBEq]; refine Ev.bind (m) ?_; simp -implicitDefEqProofs (disch := omega) only [go_sem, ↓reduceIte, reduceCtorEq, Nat.reduceAdd, Nat.reduceSub, Nat.reduceEqDiff, Nat.reduceLeDiff, Nat.reduceBEq])
  exact Ev.ret _
theorem qdiv0_ev {p q : PV} {r : Rat} (hp : IsQ p r) (hq : IsQ q 0) : Ev (fun k => (lvl tab ext k).call 30 [.pv p, .pv q]) [.pv (.agg [.bool false, .ints .u32 [], .ints .u32 []]), (.pv (.bool (false)))] := by
  have n2 := qnorm_ev hq
  rw [ofQ_zero] at n2
  obtain ⟨b, l, d, rfl, hl, hd, h1, h2, rfl⟩ := hp
  obtain ⟨b', l', d', rfl, hl', hd', h1', h2', h0⟩ := hq
  refine Ev.call rfl tab30 ?_
  simp -implicitDefEqProofs (disch := omega) only [F30, go_sem, ↓reduceIte, reduceCtorEq, Nat.reduceAdd, Nat.reduceSub, Nat.reduceEqDiff, Nat.reduceLeDiff, Nat.reduceBEq]
  (refine Ev.bind (n2) ?_; simp -implicitDefEqProofs (disch := omega) only [go_sem, ↓reduceIte, reduceCtorEq, Nat.reduceAdd, Nat.reduceSub, Nat.reduceEqDiff, Nat.reduceLeDiff, Nat.reduceBEq])
  exact Ev.ret _
end Go.Proofs.Ytnmehcoigcjmlaa.V
set_option linter.unusedSimpArgs false
set_option linter.unusedVariables false
namespace Go.Proofs.Ytnmehcoigcjmlaa.V
open Go Go.Proofs.Ytnmehcoigcjmlaa.M
theorem qfloor_ev {p : PV} {r : Rat} (hp : IsQ p r) : Ev (fun k => (lvl tab ext k).call 31 [.pv p]) [.pv (ofZ r.floor)] := by
  have n1 := qnorm_ev hp
  have dm := zdivmod_ev (isZ_num hp.qz6) (isZ_den hp.qz6) (by have := r.den_pos; omega)
  rw [← Rat.floor_def] at dm
  obtain ⟨b, l, d, rfl, hl, hd, h1, h2, rfl⟩ := hp
  generalize rv b l d = r at *
  generalize r.floor = f at *
  generalize r.num % (r.den : Int) = m at *
  refine Ev.call rfl tab31 ?_
  simp -implicitDefEqProofs (disch := omega) only [F31, go_sem, ↓reduceIte, reduceCtorEq, Nat.reduceAdd, Nat.reduceSub, Nat.reduceEqDiff, Nat.reduceLeDiff, Nat.reduceBEq]
  (refine Ev.bind (n1) ?_; simp -implicitDefEqProofs (disch := omega) only [go_sem, ↓reduceIte, reduceCtorEq, Nat.reduceAdd, Nat.reduceSub, Nat.reduceEqDiff, Nat.reduceLeDiff, Nat.reduceBEq]; refine Ev.bind (whole_ev) ?_; simp -implicitDefEqProofs (disch := omega) only [go_sem, ↓reduceIte, reduceCtorEq, Nat.reduceAdd, Nat.reduceSub, Nat.reduceEqDiff, Nat.reduceLeDiff, Nat.reduceBEq]; refine Ev.bind (dm) ?_; simp -implicitDefEqProofs (disch := omega) only [go_sem, ↓reduceIte, reduceCtorEq, Nat.reduceAdd, Nat.reduceSub, Nat.reduceEqDiff, Nat.reduceLeDiff, Nat.reduceBEq])
  exact Ev.ret _
theorem two_ev : Ev (fun k => (lvl tab ext k).call 34 [(.pv (.int .u64 (2)))]) [(.own (.ints .u32 (ofN 2)))] := of_ev (a := 2) (by decide) (by decide)
theorem len_two : (ofN 2).length ≤ 1 := len_small (by decide)
theorem qround_ev {p : PV} {r : Rat} (hp : IsQ p r) : Ev (fun k => (lvl tab ext k).call 26 [.pv p]) [.pv (ofZ (rround r))] := by
  have n1 := qnorm_ev hp
  have q1 : (absL r.num).length ≤ 100000 := hp.qz.1
  have q2 : (denL r).length ≤ 100000 := hp.qz.2
  have l2 := len_two
  have m1 := mul_ev (lim_abs r.num) (lim_ofN 2) (by omega)
  rw [val_abs, val_ofN, Nat.mul_comm] at m1
  have lm1 : (ofN (2 * r.num.natAbs)).length ≤ 100001 := by
    have := len_mul 2 r.num.natAbs
    have : (ofN r.num.natAbs).length ≤ 100000 := hp.qz.1
    omega
  have a := add_ev (lim_ofN (2 * r.num.natAbs)) (lim_den r) (by omega) (by omega)
  rw [val_ofN, val_den] at a
  have la : (ofN (2 * r.num.natAbs + r.den)).length ≤ 100002 := by
    have := len_add (2 * r.num.natAbs) r.den
    have : (ofN r.den).length ≤ 100000 := hp.qz.2
    omega
  have m2 := mul_ev (lim_den r) (lim_ofN 2) (by omega)
  rw [val_den, val_ofN, Nat.mul_comm] at m2
  have lm2 : (ofN (2 * r.den)).length ≤ 100001 := by
    have := len_mul 2 r.den
    have : (ofN r.den).length ≤ 100000 := hp.qz.2
    omega
  have hpos := r.den_pos
  obtain ⟨o, d⟩ := divmod_ev (lim_ofN (2 * r.num.natAbs + r.den)) (lim_ofN (2 * r.den)) (by omega) (by omega) (by rw [val_ofN]; omega)
  rw [val_ofN, val_ofN] at d
  have lq := len_mono (Nat.div_le_self (2 * r.num.natAbs + r.den) (2 * r.den))
  have nn := znorm_ev (isZ_mk (b := sgnB r.num) (lim_ofN ((2 * r.num.natAbs + r.den) / (2 * r.den))) (by omega))
  have er : iv (sgnB r.num) (ofN ((2 * r.num.natAbs + r.den) / (2 * r.den))) = rround r := by
    unfold rround sgnB
    rw [iv_norm]
    by_cases h : r.num < 0
    · rw [decide_eq_true h, if_pos rfl, if_pos h]
    · rw [decide_eq_false h, if_neg (by decide), if_neg h]
  rw [er] at nn
  obtain ⟨b, l, dd, rfl, hl, hd, h1, h2, rfl⟩ := hp
  generalize rv b l dd = r at *
  generalize rround r = R at *
  generalize (2 * r.num.natAbs + r.den) / (2 * r.den) = Q at *
  generalize (2 * r.num.natAbs + r.den) % (2 * r.den) = Q2 at *
  generalize 2 * r.num.natAbs + r.den = A at *
  generalize 2 * r.num.natAbs = B at *
  generalize 2 * r.den = C at *
  refine Ev.call rfl tab26 ?_
  simp -implicitDefEqProofs (disch := omega) only [F26, go_sem, ↓reduceIte, reduceCtorEq, Nat.reduceAdd, Nat.reduceSub, Nat.reduceEqDiff, Nat.reduceLeDiff, Nat.reduceBEq]
  (refine Ev.bind (n1) ?_; simp -implicitDefEqProofs (disch := omega) only [go_sem, ↓reduceIte, reduceCtorEq, Nat.reduceAdd, Nat.reduceSub, Nat.reduceEqDiff, Nat.reduceLeDiff, Nat.reduceBEq]; refine Ev.bind (two_ev) ?_; simp -implicitDefEqProofs (disch := omega) only [go_sem, ↓reduceIte, reduceCtorEq, Nat.reduceAdd, Nat.reduceSub, Nat.reduceEqDiff, Nat.reduceLeDiff, Nat.reduceBEq]; refine Ev.bind (m1) ?_; simp -implicitDefEqProofs (disch := omega) only [go_sem, ↓reduceIte, reduceCtorEq, Nat.reduceAdd, Nat.reduceSub, Nat.reduceEqDiff, Nat.reduceLeDiff, Nat.reduceBEq]; refine Ev.bind (a) ?_; simp -implicitDefEqProofs (disch := omega) only [go_sem, ↓reduceIte, reduceCtorEq, Nat.reduceAdd, Nat.reduceSub, Nat.reduceEqDiff, Nat.reduceLeDiff, Nat.reduceBEq]; refine Ev.bind (two_ev) ?_; simp -implicitDefEqProofs (disch := omega) only [go_sem, ↓reduceIte, reduceCtorEq, Nat.reduceAdd, Nat.reduceSub, Nat.reduceEqDiff, Nat.reduceLeDiff, Nat.reduceBEq]; refine Ev.bind (m2) ?_; simp -implicitDefEqProofs (disch := omega) only [go_sem, ↓reduceIte, reduceCtorEq, Nat.reduceAdd, Nat.reduceSub, Nat.reduceEqDiff, Nat.reduceLeDiff, Nat.reduceBEq]; refine Ev.bind (d) ?_; simp -implicitDefEqProofs (disch := omega) only [go_sem, ↓reduceIte, reduceCtorEq, Nat.reduceAdd, Nat.reduceSub, Nat.reduceEqDiff, Nat.reduceLeDiff, Nat.reduceBEq]; refine Ev.bind (nn) ?_; simp -implicitDefEqProofs (disch := omega) only [go_sem, ↓reduceIte, reduceCtorEq, Nat.reduceAdd, Nat.reduceSub, Nat.reduceEqDiff, Nat.reduceLeDiff, Nat.reduceBEq])
  exact Ev.ret _
theorem nE_cases (s : List UInt8) : nE s = 0 ∨ nE s = 2 ∨ nE s = 5 := by unfold nE; split <;> (try split) <;> omega
theorem zE_cases (s : List UInt8) : zE s = 0 ∨ zE s = 2 ∨ zE s = 5 := by unfold zE; split <;> (try split) <;> (try split) <;> omega
theorem nN_len (s : List UInt8) : (ofN (nN s)).length ≤ 200 := parseN_lt s
end Go.Proofs.Ytnmehcoigcjmlaa.V
set_option linter.unusedSimpArgs false
set_option linter.unusedVariables false
namespace Go.Proofs.Ytnmehcoigcjmlaa.V
open Go Go.Proofs.Ytnmehcoigcjmlaa.M
theorem red_num {b : Bool} {l d : List Int} (h0 : val d ≠ 0) : iv b (ofN (val l / Nat.gcd (val l) (val d))) = (rv b l d).num := by
  have hg : 0 < Nat.gcd (val l) (val d) := Nat.gcd_pos_of_pos_right _ (Nat.pos_of_ne_zero h0)
  obtain ⟨k, h1, h2⟩ := mk_split (iv b l) h0
  unfold rv
  rw [h2, iv_norm]
  rw [iv_abs] at h1
  obtain ⟨q, hq⟩ := Nat.gcd_dvd_left (val l) (val d)
  generalize Nat.gcd (val l) (val d) = g at *
  rw [hq, Nat.mul_div_cancel_left _ hg]
  unfold iv at h1
  rw [hq] at h1
  have hg' : (g : Int) ≠ 0 := by omega
  cases b
  · rw [if_neg (by decide)] at h1 ⊢
    rw [Int.natCast_mul] at h1
    exact Int.eq_of_mul_eq_mul_left hg' h1
  · rw [if_pos rfl] at h1 ⊢
    rw [Int.natCast_mul, ← Int.mul_neg] at h1
    exact Int.eq_of_mul_eq_mul_left hg' h1
theorem red_den {b : Bool} {l d : List Int} (h0 : val d ≠ 0) : ofN (val d / Nat.gcd (val l) (val d)) = denL (rv b l d) := by
  unfold denL rv
  rw [mk_den _ h0, iv_abs]
theorem reduce_ev {b : Bool} {l d : List Int} (hl : Lim l) (hd : Lim d) (s1 : l.length ≤ 1000000) (s2 : d.length ≤ 1000000) (h0 : val d ≠ 0) : Ev (fun k => (lvl tab ext k).call 52 [(.pv (.bool (b))), (.pv (.ints .u32 (l))), (.pv (.ints .u32 (d)))]) [.pv (ofQ (rv b l d))] := by
  have g := rgcd_ev hl hd (by omega) (by omega)
  have hG : Nat.gcd (val l) (val d) ≠ 0 := by have := Nat.gcd_pos_of_pos_right (val l) (Nat.pos_of_ne_zero h0); omega
  have lG := len_mono (Nat.gcd_le_right (val l) (Nat.pos_of_ne_zero h0))
  have l1 := len_val_le hl
  have l2 := len_val_le hd
  have d1 := rdivmod_ev hl (lim_ofN (Nat.gcd (val l) (val d))) (by omega) (by omega) (by rw [val_ofN]; exact hG)
  have d2 := rdivmod_ev hd (lim_ofN (Nat.gcd (val l) (val d))) (by omega) (by omega) (by rw [val_ofN]; exact hG)
  rw [val_ofN] at d1 d2
  have nn := ynorm_ev (isZ_mk (b := b) (lim_ofN (val l / Nat.gcd (val l) (val d))) (by have := len_mono (Nat.div_le_self (val l) (Nat.gcd (val l) (val d))); omega))
  rw [red_num h0] at nn
  rw [red_den (b := b) h0] at d2
  clear lG hG
  generalize rv b l d = r at *
  generalize Nat.gcd (val l) (val d) = G at *
  refine Ev.call rfl tab52 ?_
  simp -implicitDefEqProofs (disch := omega) only [F52, go_sem, ↓reduceIte, reduceCtorEq, Nat.reduceAdd, Nat.reduceSub, Nat.reduceEqDiff, Nat.reduceLeDiff, Nat.reduceBEq]
  (refine Ev.bind (g) ?_; simp -implicitDefEqProofs (disch := omega) only [go_sem, ↓reduceIte, reduceCtorEq, Nat.reduceAdd, Nat.reduceSub, Nat.reduceEqDiff, Nat.reduceLeDiff, Nat.reduceBEq]; refine Ev.bind (d1) ?_; simp -implicitDefEqProofs (disch := omega) only [go_sem, ↓reduceIte, reduceCtorEq, Nat.reduceAdd, Nat.reduceSub, Nat.reduceEqDiff, Nat.reduceLeDiff, Nat.reduceBEq]; refine Ev.bind (d2) ?_; simp -implicitDefEqProofs (disch := omega) only [go_sem, ↓reduceIte, reduceCtorEq, Nat.reduceAdd, Nat.reduceSub, Nat.reduceEqDiff, Nat.reduceLeDiff, Nat.reduceBEq]; refine Ev.bind (nn) ?_; simp -implicitDefEqProofs (disch := omega) only [go_sem, ↓reduceIte, reduceCtorEq, Nat.reduceAdd, Nat.reduceSub, Nat.reduceEqDiff, Nat.reduceLeDiff, Nat.reduceBEq])
  exact Ev.ret _
theorem rone_ev : Ev (fun k => (lvl tab ext k).call 49 [(.pv (.int .u64 (1)))]) [(.own (.ints .u32 ([1])))] := by
  have := rof_ev (a := 1) (by decide) (by decide)
  rwa [show (1 : Int).toNat = 1 from rfl, one_ofN] at this
theorem cellsWhole (z : Int) : PV.agg [.bool (sgnB z), .ints .u32 (absL z), .ints .u32 [1]] = ofQ (z : Rat) := by
  rw [← one_ofN]; rfl
theorem wwhole_ev {n : Int} (h : Fits n) : Ev (fun k => (lvl tab ext k).call 22 [(.pv (.int .i64 (n)))]) [.pv (ofQ (n : Rat))] := by
  have o := yof_ev h.1 h.2
  rw [← cellsWhole]
  refine Ev.call rfl tab22 ?_
  simp -implicitDefEqProofs (disch := omega) only [F22, go_sem, ↓reduceIte, reduceCtorEq, Nat.reduceAdd, Nat.reduceSub, Nat.reduceEqDiff, Nat.reduceLeDiff, Nat.reduceBEq]
  (refine Ev.bind (o) ?_; simp -implicitDefEqProofs (disch := omega) only [go_sem, ↓reduceIte, reduceCtorEq, Nat.reduceAdd, Nat.reduceSub, Nat.reduceEqDiff, Nat.reduceLeDiff, Nat.reduceBEq]; refine Ev.bind (rone_ev) ?_; simp -implicitDefEqProofs (disch := omega) only [go_sem, ↓reduceIte, reduceCtorEq, Nat.reduceAdd, Nat.reduceSub, Nat.reduceEqDiff, Nat.reduceLeDiff, Nat.reduceBEq])
  exact Ev.ret _
theorem rv_eq_zero {b : Bool} {l d : List Int} : rv b l d = 0 ↔ val l = 0 ∨ val d = 0 := by
  constructor
  · intro h
    by_cases h0 : val d = 0
    · exact .inr h0
    · left
      have := (Rat.mkRat_eq_zero h0).1 h
      have := iv_or b l
      omega
  · exact rv_zero
theorem wzero_ev {p : PV} {r : Rat} (hp : IsQ p r) : Ev (fun k => (lvl tab ext k).call 81 [.pv p]) [(.pv (.bool (decide (r = 0))))] := by
  obtain ⟨b, l, d, rfl, hl, hd, h1, h2, rfl⟩ := hp
  have n1 := rnorm_ev hl (by omega)
  have n2 := rnorm_ev hd (by omega)
  have e1 := @ofN_length_pos (val l)
  have e2 := @ofN_length_pos (val d)
  by_cases h : val l = 0
  · rw [decide_eq_true (rv_zero (.inl h))]
    have : (ofN (val l)).length = 0 := by omega
    clear e1 e2
    refine Ev.call rfl tab81 ?_
    simp -implicitDefEqProofs (disch := omega) only [F81, go_sem, ↓reduceIte, reduceCtorEq, Nat.reduceAdd, Nat.reduceSub, Nat.reduceEqDiff, Nat.reduceLeDiff, Nat.reduceBEq]
    (refine Ev.bind (n1) ?_; simp -implicitDefEqProofs (disch := omega) only [go_sem, ↓reduceIte, reduceCtorEq, Nat.reduceAdd, Nat.reduceSub, Nat.reduceEqDiff, Nat.reduceLeDiff, Nat.reduceBEq])
    exact Ev.ret _
  · have q1 : 0 < (ofN (val l)).length := by omega
    by_cases h' : val d = 0
    · rw [decide_eq_true (rv_zero (.inr h'))]
      have : (ofN (val d)).length = 0 := by omega
      clear e1 e2
      refine Ev.call rfl tab81 ?_
      simp -implicitDefEqProofs (disch := omega) only [F81, go_sem, ↓reduceIte, reduceCtorEq, Nat.reduceAdd, Nat.reduceSub, Nat.reduceEqDiff, Nat.reduceLeDiff, Nat.reduceBEq]
      (refine Ev.bind (n1) ?_; simp -implicitDefEqProofs (disch := omega) only [go_sem, ↓reduceIte, reduceCtorEq, Nat.reduceAdd, Nat.reduceSub, Nat.reduceEqDiff, Nat.reduceLeDiff, Nat.reduceBEq]; refine Ev.bind (n2) ?_; simp -implicitDefEqProofs (disch := omega) only [go_sem, ↓reduceIte, reduceCtorEq, Nat.reduceAdd, Nat.reduceSub, Nat.reduceEqDiff, Nat.reduceLeDiff, Nat.reduceBEq])
      exact Ev.ret _
    · have q2 : 0 < (ofN (val d)).length := by omega
      rw [decide_eq_false (fun e => by rcases rv_eq_zero.1 e with e | e <;> omega)]
      clear e1 e2
      refine Ev.call rfl tab81 ?_
      simp -implicitDefEqProofs (disch := omega) only [F81, go_sem, ↓reduceIte, reduceCtorEq, Nat.reduceAdd, Nat.reduceSub, Nat.reduceEqDiff, Nat.reduceLeDiff, Nat.reduceBEq]
      (refine Ev.bind (n1) ?_; simp -implicitDefEqProofs (disch := omega) only [go_sem, ↓reduceIte, reduceCtorEq, Nat.reduceAdd, Nat.reduceSub, Nat.reduceEqDiff, Nat.reduceLeDiff, Nat.reduceBEq]; refine Ev.bind (n2) ?_; simp -implicitDefEqProofs (disch := omega) only [go_sem, ↓reduceIte, reduceCtorEq, Nat.reduceAdd, Nat.reduceSub, Nat.reduceEqDiff, Nat.reduceLeDiff, Nat.reduceBEq])
      exact Ev.ret _
theorem wnorm_ev {p : PV} {r : Rat} (hp : IsQ p r) : Ev (fun k => (lvl tab ext k).call 60 [.pv p]) [.pv (ofQ r)] := by
  have z := wzero_ev hp
  obtain ⟨b, l, d, rfl, hl, hd, h1, h2, rfl⟩ := hp
  by_cases h : rv b l d = 0
  · rw [decide_eq_true h] at z
    rw [h]
    have w := wwhole_ev (n := 0) (by decide)
    rw [show ((0 : Int) : Rat) = 0 from rfl] at w
    clear h
    refine Ev.call rfl tab60 ?_
    simp -implicitDefEqProofs (disch := omega) only [F60, go_sem, ↓reduceIte, reduceCtorEq, Nat.reduceAdd, Nat.reduceSub, Nat.reduceEqDiff, Nat.reduceLeDiff, Nat.reduceBEq]
    (refine Ev.bind (z) ?_; simp -implicitDefEqProofs (disch := omega) only [go_sem, ↓reduceIte, reduceCtorEq, Nat.reduceAdd, Nat.reduceSub, Nat.reduceEqDiff, Nat.reduceLeDiff, Nat.reduceBEq]; refine Ev.bind (w) ?_; simp -implicitDefEqProofs (disch := omega) only [go_sem, ↓reduceIte, reduceCtorEq, Nat.reduceAdd, Nat.reduceSub, Nat.reduceEqDiff, Nat.reduceLeDiff, Nat.reduceBEq])
    exact Ev.ret _
  · rw [decide_eq_false h] at z
    have q := reduce_ev (b := b) hl hd (by omega) (by omega) (fun e => h (rv_zero (.inr e)))
    clear h
    generalize rv b l d = r at *
    refine Ev.call rfl tab60 ?_
    simp -implicitDefEqProofs (disch := omega) only [F60, go_sem, ↓reduceIte, reduceCtorEq, Nat.reduceAdd, Nat.reduceSub, Nat.reduceEqDiff, Nat.reduceLeDiff, Nat.reduceBEq]
    (refine Ev.bind (z) ?_; simp -implicitDefEqProofs (disch := omega) only [go_sem, ↓reduceIte, reduceCtorEq, Nat.reduceAdd, Nat.reduceSub, Nat.reduceEqDiff, Nat.reduceLeDiff, Nat.reduceBEq]; refine Ev.bind (q) ?_; simp -implicitDefEqProofs (disch := omega) only [go_sem, ↓reduceIte, reduceCtorEq, Nat.reduceAdd, Nat.reduceSub, Nat.reduceEqDiff, Nat.reduceLeDiff, Nat.reduceBEq])
    exact Ev.ret _
theorem of_rv (n d : Int) : rv (decide (¬ sgnB n = sgnB d)) (absL n) (absL d) = Rat.divInt n d := by
  have hn := iv_sgn n
  unfold rv
  rw [val_abs, ← Rat.divInt_ofNat]
  by_cases h : d < 0
  · rw [show sgnB d = true from decide_eq_true h, show ((d.natAbs : Nat) : Int) = -d by omega]
    have e : iv (decide (¬ sgnB n = true)) (absL n) = -n := by
      have key : ∀ (c : Bool) (L : List Int), iv (decide (¬ c = true)) L = -iv c L := by intro c L; cases c <;> simp [iv]
      rw [key, hn]
    rw [e, Rat.neg_divInt_neg]
  · rw [show sgnB d = false from decide_eq_false h, show ((d.natAbs : Nat) : Int) = d by omega]
    have e : decide (¬ sgnB n = false) = sgnB n := by cases sgnB n <;> rfl
    rw [e, hn]
theorem wof_ev {n d : Int} (hn : Fits n) (hd : Fits d) (h0 : d ≠ 0) : Ev (fun k => (lvl tab ext k).call 23 [(.pv (.int .i64 (n))), (.pv (.int .i64 (d)))]) [.pv (ofQ (Rat.divInt n d)), (.pv (.bool (true)))] := by
  have o1 := yof_ev hn.1 hn.2
  have o2 := yof_ev hd.1 hd.2
  have sn : (absL n).length ≤ 2 := sz_int (by have := hn.1; omega) (by have := hn.2; omega)
  have sd : (absL d).length ≤ 2 := sz_int (by have := hd.1; omega) (by have := hd.2; omega)
  have q := reduce_ev (b := decide (¬ sgnB n = sgnB d)) (lim_abs n) (lim_abs d) (by omega) (by omega) (by rw [val_abs]; omega)
  rw [of_rv] at q
  generalize Rat.divInt n d = r at *
  refine Ev.call rfl tab23 ?_
  simp -implicitDefEqProofs (disch := omega) only [F23, go_sem, ↓reduceIte, reduceCtorEq, Nat.reduceAdd, Nat.reduceSub, Nat.reduceEqDiff, Nat.reduceLeDiff, Nat.reduceBEq]
  (refine Ev.bind (o1) ?_; simp -implicitDefEqProofs (disch := omega) only [go_sem, ↓reduceIte, reduceCtorEq, Nat.reduceAdd, Nat.reduceSub, Nat.reduceEqDiff, Nat.reduceLeDiff, Nat.reduceBEq]; refine Ev.bind (o2) ?_; simp -implicitDefEqProofs (disch := omega) only [go_sem, ↓reduceIte, reduceCtorEq, Nat.reduceAdd, Nat.reduceSub, Nat.reduceEqDiff, Nat.reduceLeDiff, Nat.reduceBEq]; refine Ev.bind (q) ?_; simp -implicitDefEqProofs (disch := omega) only [go_sem, ↓reduceIte, reduceCtorEq, Nat.reduceAdd, Nat.reduceSub, Nat.reduceEqDiff, Nat.reduceLeDiff, Nat.reduceBEq])
  exact Ev.ret _
theorem wof0_ev {n : Int} : Ev (fun k => (lvl tab ext k).call 23 [(.pv (.int .i64 (n))), (.pv (.int .i64 (0)))]) [.pv zeroQ, (.pv (.bool (false)))] := by
  refine Ev.call rfl tab23 ?_
  simp -implicitDefEqProofs (disch := omega) only [F23, go_sem, ↓reduceIte, reduceCtorEq, Nat.reduceAdd, Nat.reduceSub, Nat.reduceEqDiff, Nat.reduceLeDiff, Nat.reduceBEq]
  exact Ev.ret _
theorem jsZ_den {r : Rat} (h : Qz 1000000 r) : IsZ (.agg [.bool false, .ints .u32 (denL r)]) (r.den : Int) := ⟨false, denL r, rfl, lim_den r, h.2, by rw [iv_false, val_den]⟩
theorem wden_mul {r s : Rat} (h1 : Qz 100000 r) (h2 : Qz 100000 s) : Ev (fun k => (lvl tab ext k).call 63 [(.pv (.ints .u32 (denL r))), (.pv (.ints .u32 (denL s)))]) [(.own (.ints .u32 (ofN (r.den * s.den))))] := by
  have := rmul_ev (lim_den r) (lim_den s) (by have : (denL r).length ≤ 100000 := h1.2; have : (denL s).length ≤ 100000 := h2.2; omega)
  rwa [val_den, val_den] at this
theorem wlen_den {r s : Rat} (h1 : Qz 100000 r) (h2 : Qz 100000 s) : (ofN (r.den * s.den)).length ≤ 200000 := Nat.le_trans (len_mul _ _) (Nat.add_le_add h1.2 h2.2)
theorem den_ne (r s : Rat) : val (ofN (r.den * s.den)) ≠ 0 := by rw [val_ofN]; have := Nat.mul_pos r.den_pos s.den_pos; omega
theorem iv_times (b c : Bool) (m n : Nat) : iv (decide (¬ b = c)) (ofN (m * n)) = iv b (ofN m) * iv c (ofN n) := by
  rw [iv_norm, iv_norm, iv_norm]
  cases b <;> cases c <;> simp [Int.neg_mul, Int.mul_neg]
theorem mul_rv (r s : Rat) : rv (decide (¬ sgnB r.num = sgnB s.num)) (ofN (r.num.natAbs * s.num.natAbs)) (ofN (r.den * s.den)) = r * s := by
  unfold rv
  rw [iv_times, val_ofN, Rat.mul_def']
  unfold sgnB
  rw [iv_ofN, iv_ofN]
theorem div_rv (r s : Rat) : rv (decide (¬ sgnB r.num = sgnB s.num)) (ofN (r.num.natAbs * s.den)) (ofN (r.den * s.num.natAbs)) = r / s := by
  rw [Rat.div_def, inv_mk]
  have e : mkRat (iv (sgnB r.num) (ofN r.num.natAbs)) r.den = r := by unfold sgnB; rw [iv_ofN, Rat.mkRat_self]
  unfold rv
  rw [iv_times, val_ofN]
  rw [← Rat.mkRat_mul_mkRat, e, iv_norm (sgnB s.num) s.den]
  congr 2
  unfold sgnB
  by_cases h : s.num < 0
  · rw [decide_eq_true h, if_pos rfl, if_pos h]
  · rw [decide_eq_false h, if_neg (by decide), if_neg h]
end Go.Proofs.Ytnmehcoigcjmlaa.V
set_option linter.unusedSimpArgs false
set_option linter.unusedVariables false
namespace Go.Proofs.Ytnmehcoigcjmlaa.V
open Go Go.Proofs.Ytnmehcoigcjmlaa.M
theorem rtwo_ev : Ev (fun k => (lvl tab ext k).call 49 [(.pv (.int .u64 (2)))]) [(.own (.ints .u32 (ofN 2)))] := rof_ev (a := 2) (by decide) (by decide)
theorem wround_ev {p : PV} {r : Rat} (hp : IsQ p r) : Ev (fun k => (lvl tab ext k).call 28 [.pv p]) [.pv (ofZ (rround r))] := by
  have n1 := wnorm_ev hp
  have q1 : (absL r.num).length ≤ 100000 := hp.qz.1
  have q2 : (denL r).length ≤ 100000 := hp.qz.2
  have l2 := len_small (n := 2) (by decide)
  have m1 := rmul_ev (lim_ofN 2) (lim_abs r.num) (by omega)
  rw [val_abs, val_ofN] at m1
  have lm1 : (ofN (2 * r.num.natAbs)).length ≤ 100001 := by
    have := len_mul 2 r.num.natAbs
    have : (ofN r.num.natAbs).length ≤ 100000 := hp.qz.1
    omega
  have a := radd_ev (lim_ofN (2 * r.num.natAbs)) (lim_den r) (by omega) (by omega)
  rw [val_ofN, val_den] at a
  have la : (ofN (2 * r.num.natAbs + r.den)).length ≤ 100002 := by
    have := len_add (2 * r.num.natAbs) r.den
    have : (ofN r.den).length ≤ 100000 := hp.qz.2
    omega
  have m2 := rmul_ev (lim_ofN 2) (lim_den r) (by omega)
  rw [val_den, val_ofN] at m2
  have lm2 : (ofN (2 * r.den)).length ≤ 100001 := by
    have := len_mul 2 r.den
    have : (ofN r.den).length ≤ 100000 := hp.qz.2
    omega
  have hpos := r.den_pos
  have d := rdivmod_ev (lim_ofN (2 * r.num.natAbs + r.den)) (lim_ofN (2 * r.den)) (by omega) (by omega) (by rw [val_ofN]; omega)
  rw [val_ofN, val_ofN] at d
  have lq := len_mono (Nat.div_le_self (2 * r.num.natAbs + r.den) (2 * r.den))
  have nn := ynorm_ev (isZ_mk (b := sgnB r.num) (lim_ofN ((2 * r.num.natAbs + r.den) / (2 * r.den))) (by omega))
  have er : iv (sgnB r.num) (ofN ((2 * r.num.natAbs + r.den) / (2 * r.den))) = rround r := by
    unfold rround sgnB
    rw [iv_norm]
    by_cases h : r.num < 0
    · rw [decide_eq_true h, if_pos rfl, if_pos h]
    · rw [decide_eq_false h, if_neg (by decide), if_neg h]
  rw [er] at nn
  obtain ⟨b, l, dd, rfl, hl, hd, h1, h2, rfl⟩ := hp
  generalize rv b l dd = r at *
  generalize rround r = R at *
  generalize (2 * r.num.natAbs + r.den) / (2 * r.den) = Q at *
  generalize (2 * r.num.natAbs + r.den) % (2 * r.den) = Q2 at *
  generalize 2 * r.num.natAbs + r.den = A at *
  generalize 2 * r.num.natAbs = B at *
  generalize 2 * r.den = C at *
  refine Ev.call rfl tab28 ?_
  simp -implicitDefEqProofs (disch := omega) only [F28, go_sem, ↓reduceIte, reduceCtorEq, Nat.reduceAdd, Nat.reduceSub, Nat.reduceEqDiff, Nat.reduceLeDiff, Nat.reduceBEq]
  (refine Ev.bind (n1) ?_; simp -implicitDefEqProofs (disch := omega) only [go_sem, ↓reduceIte, reduceCtorEq, Nat.reduceAdd, Nat.reduceSub, Nat.reduceEqDiff, Nat.reduceLeDiff, Nat.reduceBEq]; refine Ev.bind (rtwo_ev) ?_; simp -implicitDefEqProofs (disch := omega) only [go_sem, ↓reduceIte, reduceCtorEq, Nat.reduceAdd, Nat.reduceSub, Nat.reduceEqDiff, Nat.reduceLeDiff, Nat.reduceBEq]; refine Ev.bind (m1) ?_; simp -implicitDefEqProofs (disch := omega) only [go_sem, ↓reduceIte, reduceCtorEq, Nat.reduceAdd, Nat.reduceSub, Nat.reduceEqDiff, Nat.reduceLeDiff, Nat.reduceBEq]; refine Ev.bind (a) ?_; simp -implicitDefEqProofs (disch := omega) only [go_sem, ↓reduceIte, reduceCtorEq, Nat.reduceAdd, Nat.reduceSub, Nat.reduceEqDiff, Nat.reduceLeDiff, Nat.reduceBEq]; refine Ev.bind (m2) ?_; simp -implicitDefEqProofs (disch := omega) only [go_sem, ↓reduceIte, reduceCtorEq, Nat.reduceAdd, Nat.reduceSub, Nat.reduceEqDiff, Nat.reduceLeDiff, Nat.reduceBEq]; refine Ev.bind (d) ?_; simp -implicitDefEqProofs (disch := omega) only [go_sem, ↓reduceIte, reduceCtorEq, Nat.reduceAdd, Nat.reduceSub, Nat.reduceEqDiff, Nat.reduceLeDiff, Nat.reduceBEq]; refine Ev.bind (nn) ?_; simp -implicitDefEqProofs (disch := omega) only [go_sem, ↓reduceIte, reduceCtorEq, Nat.reduceAdd, Nat.reduceSub, Nat.reduceEqDiff, Nat.reduceLeDiff, Nat.reduceBEq])
  exact Ev.ret _
theorem lim_one : Lim [1] := by rw [← one_ofN]; exact lim_ofN 1
theorem val_one : val [1] = 1 := by rw [← one_ofN, val_ofN]
theorem rcmp1_ev {n : Nat} (hn : (ofN n).length ≤ 1000000) : Ev (fun k => (lvl tab ext k).call 90 [(.pv (.ints .u32 (ofN n))), (.pv (.ints .u32 ([1])))]) [(.pv (.int .i64 (cmp n 1)))] := by
  have := rcmp_ev (lim_ofN n) lim_one (by omega) (by decide)
  rwa [val_ofN, val_one] at this
theorem limbs_loop {l : List Int} (hs : l.length ≤ 1000000000) : ∀ d i, d + i = l.length → ∀ n : Int, n = i →
    Ev (fun k => run (lvl tab ext k) F54C0 F54L0 ⟨mk [(0, (.pv (.ints .u32 (l)))), (1, (.pv (.ints .u32 (l)))), (5, (.pv (.int .i64 (n))))], hp []⟩) (.exit 0, ⟨mk [(0, (.pv (.ints .u32 (l)))), (1, (.pv (.ints .u32 (l)))), (5, (.pv (.int .i64 ((l.length : Int))))), (14, (.pv (.bool (false))))], hp []⟩) := by
  intro d
  induction d with
  | zero =>
    intro i hd n hn
    have : i = l.length := by omega
    subst this
    subst hn
    refine Ev.body (by unfold F54L0; rfl) ?_
    simp -implicitDefEqProofs (disch := omega) only [go_sem, ↓reduceIte, reduceCtorEq, Nat.reduceAdd, Nat.reduceSub, Nat.reduceEqDiff, Nat.reduceLeDiff, Nat.reduceBEq]
    exact Ev.ret _
  | succ d ih =>
    intro i hd n hn
    subst hn
    have r := ih (i + 1) (by omega) ((i : Int) + 1) (by omega)
    clear ih
    refine Ev.body (by unfold F54L0; rfl) ?_
    simp -implicitDefEqProofs (disch := omega) only [go_sem, ↓reduceIte, reduceCtorEq, Nat.reduceAdd, Nat.reduceSub, Nat.reduceEqDiff, Nat.reduceLeDiff, Nat.reduceBEq]
    exact Ev.lp (by simp -implicitDefEqProofs (disch := omega) only [F54C0, go_sem, ↓reduceIte, reduceCtorEq, Nat.reduceAdd, Nat.reduceSub, Nat.reduceEqDiff, Nat.reduceLeDiff, Nat.reduceBEq]) r
theorem limbs_ev {l : List Int} (hs : l.length ≤ 1000000000) : Ev (fun k => (lvl tab ext k).call 54 [(.pv (.ints .u32 (l))), (.pv (.ints .u32 (l)))]) [(.pv (.bool (true)))] := by
  have r := limbs_loop hs l.length 0 (by omega) 0 rfl
  refine Ev.call rfl tab54 ?_
  simp -implicitDefEqProofs (disch := omega) only [F54, go_sem, ↓reduceIte, reduceCtorEq, Nat.reduceAdd, Nat.reduceSub, Nat.reduceEqDiff, Nat.reduceLeDiff, Nat.reduceBEq]
  refine Ev.bind (Ev.lp (by simp -implicitDefEqProofs (disch := omega) only [F54C0, go_sem, ↓reduceIte, reduceCtorEq, Nat.reduceAdd, Nat.reduceSub, Nat.reduceEqDiff, Nat.reduceLeDiff, Nat.reduceBEq]) r) ?_
  simp -implicitDefEqProofs (disch := omega) only [go_sem, ↓reduceIte, reduceCtorEq, Nat.reduceAdd, Nat.reduceSub, Nat.reduceEqDiff, Nat.reduceLeDiff, Nat.reduceBEq]
  exact Ev.ret _
theorem sameInt_ev {b : Bool} {l : List Int} (hs : l.length ≤ 1000000000) : Ev (fun k => (lvl tab ext k).call 53 [.pv (.agg [.bool b, .ints .u32 l]), .pv (.agg [.bool b, .ints .u32 l])]) [(.pv (.bool (true)))] := by
  refine Ev.call rfl tab53 ?_
  simp -implicitDefEqProofs (disch := omega) only [F53, go_sem, ↓reduceIte, reduceCtorEq, Nat.reduceAdd, Nat.reduceSub, Nat.reduceEqDiff, Nat.reduceLeDiff, Nat.reduceBEq]
  refine Ev.bind (limbs_ev hs) ?_
  simp -implicitDefEqProofs (disch := omega) only [go_sem, ↓reduceIte, reduceCtorEq, Nat.reduceAdd, Nat.reduceSub, Nat.reduceEqDiff, Nat.reduceLeDiff, Nat.reduceBEq]
  exact Ev.ret _
theorem wsameInt_ev {z : Int} (h : Sz 1000000 z) : Ev (fun k => (lvl tab ext k).call 53 [.pv (ofZ z), .pv (ofZ z)]) [(.pv (.bool (true)))] := sameInt_ev (Nat.le_trans h (by decide))
theorem same3_ev {b : Bool} {l d : List Int} (hs : l.length ≤ 1000000000) (hd : d.length ≤ 1000000000) : Ev (fun k => (lvl tab ext k).call 24 [.pv (.agg [.bool b, .ints .u32 l, .ints .u32 d]), .pv (.agg [.bool b, .ints .u32 l, .ints .u32 d])]) [(.pv (.bool (true)))] := by
  refine Ev.call rfl tab24 ?_
  simp -implicitDefEqProofs (disch := omega) only [F24, go_sem, ↓reduceIte, reduceCtorEq, Nat.reduceAdd, Nat.reduceSub, Nat.reduceEqDiff, Nat.reduceLeDiff, Nat.reduceBEq]
  refine Ev.bind (sameInt_ev hs) ?_
  simp -implicitDefEqProofs (disch := omega) only [go_sem, ↓reduceIte, reduceCtorEq, Nat.reduceAdd, Nat.reduceSub, Nat.reduceEqDiff, Nat.reduceLeDiff, Nat.reduceBEq]
  refine Ev.bind (limbs_ev hd) ?_
  simp -implicitDefEqProofs (disch := omega) only [go_sem, ↓reduceIte, reduceCtorEq, Nat.reduceAdd, Nat.reduceSub, Nat.reduceEqDiff, Nat.reduceLeDiff, Nat.reduceBEq]
  exact Ev.ret _
theorem wsame_ev {r : Rat} (h : Qz 1000000 r) : Ev (fun k => (lvl tab ext k).call 24 [.pv (ofQ r), .pv (ofQ r)]) [(.pv (.bool (true)))] := same3_ev (Nat.le_trans h.1 (by decide)) (Nat.le_trans h.2 (by decide))
theorem wsame0_ev : Ev (fun k => (lvl tab ext k).call 24 [.pv zeroQ, .pv zeroQ]) [(.pv (.bool (true)))] := same3_ev (by decide) (by decide)
theorem wlight_ev {b : Bool} {l d : List Int} {n : Int} : Ev (fun k => (lvl tab ext k).call 9 [.pv (.agg [.bool b, .ints .u32 l, .ints .u32 d]), (.pv (.int .i64 (n)))]) [(.pv (.bool (decide ((l.length : Int) ≤ n ∧ (d.length : Int) ≤ n))))] := by
  by_cases h1 : (l.length : Int) ≤ n
  · by_cases h2 : (d.length : Int) ≤ n
    · rw [decide_eq_true ⟨h1, h2⟩]
      refine Ev.call rfl tab9 ?_
      simp -implicitDefEqProofs (disch := omega) only [F9, go_sem, ↓reduceIte, reduceCtorEq, Nat.reduceAdd, Nat.reduceSub, Nat.reduceEqDiff, Nat.reduceLeDiff, Nat.reduceBEq]
      exact Ev.ret _
    · rw [decide_eq_false (fun h => h2 h.2)]
      refine Ev.call rfl tab9 ?_
      simp -implicitDefEqProofs (disch := omega) only [F9, go_sem, ↓reduceIte, reduceCtorEq, Nat.reduceAdd, Nat.reduceSub, Nat.reduceEqDiff, Nat.reduceLeDiff, Nat.reduceBEq]
      exact Ev.ret _
  · rw [decide_eq_false (fun h => h1 h.1)]
    refine Ev.call rfl tab9 ?_
    simp -implicitDefEqProofs (disch := omega) only [F9, go_sem, ↓reduceIte, reduceCtorEq, Nat.reduceAdd, Nat.reduceSub, Nat.reduceEqDiff, Nat.reduceLeDiff, Nat.reduceBEq]
    exact Ev.ret _
theorem cellsOne (z : Int) : PV.agg [.bool (sgnB z), .ints .u32 (absL z), .ints .u32 [1]] = ofQ (mkRat z 1) := by
  rw [ofQ_mk z (by decide), Nat.gcd_one_right, Nat.div_one, Nat.div_one, one_ofN]; rfl
theorem cellsMk {z : Int} {n : Nat} (h0 : n ≠ 0) (h1 : Nat.gcd z.natAbs n = 1) : PV.agg [.bool (sgnB z), .ints .u32 (absL z), .ints .u32 (ofN n)] = ofQ (mkRat z n) := by
  rw [ofQ_mk z h0, h1, Nat.div_one, Nat.div_one]; rfl
end Go.Proofs.Ytnmehcoigcjmlaa.V
set_option linter.unusedSimpArgs false
set_option linter.unusedVariables false
namespace Go.Proofs.Ytnmehcoigcjmlaa.V
open Go Go.Proofs.Ytnmehcoigcjmlaa.M
def boolT (P : Program) (t : TypeId) : Bool := match P.underlying t with
  | some .bool => true
  | _ => false
def strT (P : Program) (t : TypeId) : Bool := match P.underlying t with
  | some .string => true
  | _ => false
def intT (P : Program) (k : IntKind) (t : TypeId) : Bool := match P.underlying t with
  | some (.int k') => decide (k = k')
  | _ => false
def intsT (P : Program) (k : IntKind) (t : TypeId) : Bool := match P.underlying t with
  | some (.slice e) => intT P k e
  | _ => false
theorem boolT_inv {P : Program} {t : TypeId} (h : boolT P t = true) {m : Nat} {ps : List PV} (ht : TyPV P m t ps) : ∃ b, ps = [.bool b] := by
  cases m with
  | zero => exact ht.elim
  | succ m =>
    unfold boolT at h
    unfold TyPV at ht
    split at h
    · rename_i hu; rw [hu] at ht; exact ht
    · cases h
theorem strT_inv {P : Program} {t : TypeId} (h : strT P t = true) {m : Nat} {ps : List PV} (ht : TyPV P m t ps) : ∃ s, ps = [.str s] ∧ s.length ≤ maxLen := by
  cases m with
  | zero => exact ht.elim
  | succ m =>
    unfold strT at h
    unfold TyPV at ht
    split at h
    · rename_i hu; rw [hu] at ht; exact ht
    · cases h
theorem intT_inv {P : Program} {k : IntKind} {t : TypeId} (h : intT P k t = true) {m : Nat} {ps : List PV} (ht : TyPV P m t ps) : ∃ z, ps = [.int k z] ∧ (Lit.int k z).wf = true := by
  cases m with
  | zero => exact ht.elim
  | succ m =>
    unfold intT at h
    unfold TyPV at ht
    split at h
    · rename_i k' hu
      have := of_decide_eq_true h
      subst this
      rw [hu] at ht; exact ht
    · cases h
theorem intsT_inv {P : Program} {k : IntKind} {t : TypeId} (h : intsT P k t = true) {m : Nat} {ps : List PV} (ht : TyPV P m t ps) : ∃ l : List Int, ps = [.ints k l] ∧ (∀ z ∈ l, (Lit.int k z).wf = true) ∧ l.length ≤ maxLen := by
  cases m with
  | zero => exact ht.elim
  | succ m =>
    unfold intsT at h
    unfold TyPV at ht
    split at h
    · rename_i e hu
      unfold intT at h
      split at h
      · rename_i k' hue
        have := of_decide_eq_true h
        subst this
        simp only [hu, hue] at ht; exact ht
      · cases h
    · cases h
theorem lim_wf {l : List Int} (h : ∀ x ∈ l, (Lit.int .u32 x).wf = true) : Lim l := by
  intro x hx
  have := h x hx
  simp only [Lit.wf, IntKind.min, IntKind.max, IntKind.signed, IntKind.bits, Bool.and_eq_true] at this
  have h1 := this.1
  have h2 := this.2
  simp at h1 h2
  omega
theorem i64_wf {x : Int} (h : (Lit.int .i64 x).wf = true) : -9223372036854775808 ≤ x ∧ x < 9223372036854775808 := by
  simp only [Lit.wf, IntKind.min, IntKind.max, IntKind.signed, IntKind.bits, Bool.and_eq_true] at h
  have h1 := h.1
  have h2 := h.2
  simp at h1 h2
  omega
/-- A struct of two fields. -/
def twoT (P : Program) (p q : TypeId → Bool) (t : TypeId) : Bool := match P.underlying t with
  | some (.struct fs) => match fs.toList with
    | [f, g] => p f.type && q g.type
    | _ => false
  | _ => false
theorem twoT_inv {P : Program} {p q : TypeId → Bool} {t : TypeId} (h : twoT P p q t = true) {m : Nat} {ps : List PV} (ht : TyPV P m t ps) : ∃ m' a b xs ys, p a = true ∧ q b = true ∧ ps = xs ++ ys ∧ TyPV P m' a xs ∧ TyPV P m' b ys := by
  cases m with
  | zero => exact ht.elim
  | succ m =>
    unfold twoT at h
    unfold TyPV at ht
    split at h
    · rename_i fs hu
      rw [hu] at ht
      split at h
      · rename_i f g hfs
        simp only [hfs, TyFs] at ht
        simp only [Bool.and_eq_true] at h
        obtain ⟨x, y, rfl, h1, z, w, rfl, h2, rfl⟩ := ht
        exact ⟨m, f.type, g.type, x, z, h.1, h.2, by simp, h1, h2⟩
      · cases h
    · cases h
def intZT (P : Program) (t : TypeId) : Bool := twoT P (boolT P) (intsT P .u32) t
theorem intZT_inv {P : Program} {t : TypeId} (h : intZT P t = true) {m : Nat} {ps : List PV} (ht : TyPV P m t ps) : ∃ b l, ps = [.bool b, .ints .u32 l] ∧ Lim l ∧ l.length ≤ maxLen := by
  obtain ⟨m', a, b, xs, ys, ha, hb, rfl, h1, h2⟩ := twoT_inv h ht
  obtain ⟨c, rfl⟩ := boolT_inv ha h1
  obtain ⟨l, rfl, h3, h4⟩ := intsT_inv hb h2
  exact ⟨c, l, rfl, lim_wf h3, h4⟩
theorem structT_arg {P : Program} {p q : TypeId → Bool} {t : TypeId} (h : twoT P p q t = true) (ps : List PV) : argPV P t ps = .agg ps := by
  unfold twoT at h
  unfold argPV
  split at h
  · rename_i fs hu; rw [hu]
  · cases h
end Go.Proofs.Ytnmehcoigcjmlaa.V
set_option linter.unusedSimpArgs false
set_option linter.unusedVariables false
namespace Go.Proofs.Ytnmehcoigcjmlaa.V
open Go Go.Proofs.Ytnmehcoigcjmlaa.M
abbrev QA (b : Bool) (l d : List Int) : PV := .agg [.bool b, .ints .u32 l, .ints .u32 d]
def ratT (P : Program) (t : TypeId) : Bool := twoT P (intZT P) (intsT P .u32) t
theorem ratT_inv {P : Program} {t : TypeId} (h : ratT P t = true) {m : Nat} {ps : List PV} (ht : TyPV P m t ps) : ∃ b l d, ps = [.bool b, .ints .u32 l, .ints .u32 d] ∧ Lim l ∧ Lim d ∧ l.length ≤ maxLen ∧ d.length ≤ maxLen := by
  obtain ⟨m', a, c, xs, ys, ha, hc, rfl, h1, h2⟩ := twoT_inv h ht
  obtain ⟨b, l, rfl, hl, hl2⟩ := intZT_inv ha h1
  obtain ⟨d, rfl, h3, h4⟩ := intsT_inv hc h2
  exact ⟨b, l, d, rfl, hl, lim_wf h3, hl2, h4⟩
theorem intT_arg {P : Program} {k : IntKind} {t : TypeId} (h : intT P k t = true) (p : PV) : argPV P t [p] = p := by
  unfold intT at h
  unfold argPV
  split at h
  · rename_i hu; rw [hu]; rfl
  · cases h
theorem strT_arg {P : Program} {t : TypeId} (h : strT P t = true) (p : PV) : argPV P t [p] = p := by
  unfold strT at h
  unfold argPV
  split at h
  · rename_i hu; rw [hu]; rfl
  · cases h
theorem u32_wf {x : Int} (h : (Lit.int .u32 x).wf = true) : 0 ≤ x ∧ x < 4294967296 := by
  simp only [Lit.wf, IntKind.min, IntKind.max, IntKind.signed, IntKind.bits, Bool.and_eq_true] at h
  have h1 := h.1
  have h2 := h.2
  simp at h1 h2
  omega
theorem ret3 {F : Nat → Option (List AR)} {r : List AR} (h : Ev F r) : ∃ k, F k = some r := let ⟨n, h⟩ := h; ⟨n, h n (Nat.le_refl _)⟩
abbrev PureQ (ts : List TypeId) (f : Nat) : Prop := ∀ pss, All2 (fun t ps => ∃ m, TyPV Try.prog m t ps) ts pss → ∃ k, (lvl tab ext k).call f (((ts.zip pss).map fun q => argPV Try.prog q.1 q.2).map .pv) = some [.pv (.bool true)]
theorem pureQ1 {f : Nat} {t : TypeId} (ht : ratT Try.prog t = true) (h : ∀ b l d, Lim l → Lim d → Ev (fun k => (lvl tab ext k).call f [.pv (QA b l d)]) [(.pv (.bool (true)))]) : PureQ [t] f := by
  intro pss g
  cases g with
  | cons g1 g => cases g
                 obtain ⟨m1, g1⟩ := g1
                 obtain ⟨b, l, d, rfl, hl, hd, _⟩ := ratT_inv ht g1
                 show ∃ k, (lvl tab ext k).call f [.pv (argPV Try.prog _ _)] = _
                 rw [structT_arg ht]
                 exact ret3 (h b l d hl hd)
theorem pureQ2 {f : Nat} {t : TypeId} (ht : ratT Try.prog t = true) (h : ∀ b l d b' l' d', Lim l → Lim d → Lim l' → Lim d' → Ev (fun k => (lvl tab ext k).call f [.pv (QA b l d), .pv (QA b' l' d')]) [(.pv (.bool (true)))]) : PureQ [t, t] f := by
  intro pss g
  cases g with
  | cons g1 g => cases g with
    | cons g2 g => cases g
                   obtain ⟨m1, g1⟩ := g1
                   obtain ⟨m2, g2⟩ := g2
                   obtain ⟨b, l, d, rfl, hl, hd, _⟩ := ratT_inv ht g1
                   obtain ⟨b', l', d', rfl, hl', hd', _⟩ := ratT_inv ht g2
                   show ∃ k, (lvl tab ext k).call f [.pv (argPV Try.prog _ _), .pv (argPV Try.prog _ _)] = _
                   rw [structT_arg ht, structT_arg ht]
                   exact ret3 (h b l d b' l' d' hl hd hl' hd')
theorem pureQ3 {f : Nat} {t : TypeId} (ht : ratT Try.prog t = true) (h : ∀ b l d b' l' d' b'' l'' d'', Lim l → Lim d → Lim l' → Lim d' → Lim l'' → Lim d'' → Ev (fun k => (lvl tab ext k).call f [.pv (QA b l d), .pv (QA b' l' d'), .pv (QA b'' l'' d'')]) [(.pv (.bool (true)))]) : PureQ [t, t, t] f := by
  intro pss g
  cases g with
  | cons g1 g => cases g with
    | cons g2 g => cases g with
      | cons g3 g => cases g
                     obtain ⟨m1, g1⟩ := g1
                     obtain ⟨m2, g2⟩ := g2
                     obtain ⟨m3, g3⟩ := g3
                     obtain ⟨b, l, d, rfl, hl, hd, _⟩ := ratT_inv ht g1
                     obtain ⟨b', l', d', rfl, hl', hd', _⟩ := ratT_inv ht g2
                     obtain ⟨b'', l'', d'', rfl, hl'', hd'', _⟩ := ratT_inv ht g3
                     show ∃ k, (lvl tab ext k).call f [.pv (argPV Try.prog _ _), .pv (argPV Try.prog _ _), .pv (argPV Try.prog _ _)] = _
                     rw [structT_arg ht, structT_arg ht, structT_arg ht]
                     exact ret3 (h b l d b' l' d' b'' l'' d'' hl hd hl' hd' hl'' hd'')
theorem pureI2 {f : Nat} {t : TypeId} (ht : intT Try.prog .i64 t = true) (h : ∀ x y, Fits x → Fits y → Ev (fun k => (lvl tab ext k).call f [(.pv (.int .i64 (x))), (.pv (.int .i64 (y)))]) [(.pv (.bool (true)))]) : PureQ [t, t] f := by
  intro pss g
  cases g with
  | cons g1 g => cases g with
    | cons g2 g => cases g
                   obtain ⟨m1, g1⟩ := g1
                   obtain ⟨m2, g2⟩ := g2
                   obtain ⟨x, rfl, hx⟩ := intT_inv ht g1
                   obtain ⟨y, rfl, hy⟩ := intT_inv ht g2
                   show ∃ k, (lvl tab ext k).call f [.pv (argPV Try.prog _ _), .pv (argPV Try.prog _ _)] = _
                   rw [intT_arg ht, intT_arg ht]
                   exact ret3 (h x y (i64_wf hx) (i64_wf hy))
theorem pureQI {f : Nat} {t u : TypeId} {k : IntKind} (ht : ratT Try.prog t = true) (hu : intT Try.prog k u = true) (h : ∀ b l d x, Lim l → Lim d → (Lit.int k x).wf = true → Ev (fun j => (lvl tab ext j).call f [.pv (QA b l d), .pv (.int k x)]) [(.pv (.bool (true)))]) : PureQ [t, u] f := by
  intro pss g
  cases g with
  | cons g1 g => cases g with
    | cons g2 g => cases g
                   obtain ⟨m1, g1⟩ := g1
                   obtain ⟨m2, g2⟩ := g2
                   obtain ⟨b, l, d, rfl, hl, hd, _⟩ := ratT_inv ht g1
                   obtain ⟨x, rfl, hx⟩ := intT_inv hu g2
                   show ∃ k, (lvl tab ext k).call f [.pv (argPV Try.prog _ _), .pv (argPV Try.prog _ _)] = _
                   rw [structT_arg ht, intT_arg hu]
                   exact ret3 (h b l d x hl hd hx)
theorem pureQQI {f : Nat} {t u : TypeId} {k : IntKind} (ht : ratT Try.prog t = true) (hu : intT Try.prog k u = true) (h : ∀ b l d b' l' d' x, Lim l → Lim d → Lim l' → Lim d' → (Lit.int k x).wf = true → Ev (fun j => (lvl tab ext j).call f [.pv (QA b l d), .pv (QA b' l' d'), .pv (.int k x)]) [(.pv (.bool (true)))]) : PureQ [t, t, u] f := by
  intro pss g
  cases g with
  | cons g1 g => cases g with
    | cons g2 g => cases g with
      | cons g3 g => cases g
                     obtain ⟨m1, g1⟩ := g1
                     obtain ⟨m2, g2⟩ := g2
                     obtain ⟨m3, g3⟩ := g3
                     obtain ⟨b, l, d, rfl, hl, hd, _⟩ := ratT_inv ht g1
                     obtain ⟨b', l', d', rfl, hl', hd', _⟩ := ratT_inv ht g2
                     obtain ⟨x, rfl, hx⟩ := intT_inv hu g3
                     show ∃ k, (lvl tab ext k).call f [.pv (argPV Try.prog _ _), .pv (argPV Try.prog _ _), .pv (argPV Try.prog _ _)] = _
                     rw [structT_arg ht, structT_arg ht, intT_arg hu]
                     exact ret3 (h b l d b' l' d' x hl hd hl' hd' hx)
theorem pureS {f : Nat} {t : TypeId} (ht : strT Try.prog t = true) (h : ∀ s, Ev (fun k => (lvl tab ext k).call f [(.pv (.str (s)))]) [(.pv (.bool (true)))]) : PureQ [t] f := by
  intro pss g
  cases g with
  | cons g1 g => cases g
                 obtain ⟨m1, g1⟩ := g1
                 obtain ⟨s, rfl, hs⟩ := strT_inv ht g1
                 show ∃ k, (lvl tab ext k).call f [.pv (argPV Try.prog _ _)] = _
                 rw [strT_arg ht]
                 exact ret3 (h s)
theorem isq_mk {b : Bool} {l d : List Int} {n : Nat} (hl : Lim l) (hd : Lim d) (h1 : l.length ≤ n) (h2 : d.length ≤ n) (h3 : 1 ≤ n) (hn : n ≤ 100000) : IsQ (QA b l d) (rv b l d) ∧ Qz n (rv b l d) :=
  ⟨isQ_mk hl hd (by omega) (by omega), qz_rv hl hd h1 h2 h3⟩
theorem sameQ {r : Rat} {n : Nat} (h : Qz n r) (hn : n ≤ 1000000) : Ev (fun k => (lvl tab ext k).call 24 [.pv (ofQ r), .pv (ofQ r)]) [(.pv (.bool (true)))] := wsame_ev (qz_mono h hn)
theorem sameQe {r s : Rat} {n : Nat} (h : Qz n r) (hn : n ≤ 1000000) (e : r = s) : Ev (fun k => (lvl tab ext k).call 24 [.pv (ofQ r), .pv (ofQ s)]) [(.pv (.bool (true)))] := by
  subst e; exact sameQ h hn
theorem isQn {r : Rat} {n : Nat} (h : Qz n r) (hn : n ≤ 100000) : IsQ (ofQ r) r := isQ_of (qz_mono h hn)
end Go.Proofs.Ytnmehcoigcjmlaa.V
set_option linter.unusedSimpArgs false
set_option linter.unusedVariables false
namespace Go.Proofs.Ytnmehcoigcjmlaa.V
open Go Go.Proofs.Ytnmehcoigcjmlaa.M
theorem sz_fits {n : Int} (h : Fits n) : Sz 2 n := sz_int (by have := h.1; omega) (by have := h.2; omega)
theorem qz_of {n d : Int} (hn : Fits n) (hd : Fits d) : Qz 2 (Rat.divInt n d) := by
  rw [← of_rv]
  exact qz_rv (lim_abs n) (lim_abs d) (sz_fits hn) (sz_fits hd) (by decide)
theorem int_div_one (n : Int) : Rat.divInt n 1 = (n : Rat) := Rat.num_divInt_den (n : Rat)
theorem qn1_ev {n : Int} (h : Fits n) : Ev (fun k => (lvl tab ext k).call 17 [(.pv (.int .i64 (n))), (.pv (.int .i64 (1)))]) [.pv (ofQ (n : Rat)), (.pv (.bool (true)))] := by
  have := qof_ev h (show Fits 1 by decide) (by decide)
  rwa [int_div_one] at this
theorem qz_n1 {n : Int} (h : Fits n) : Qz 2 (n : Rat) := qz_int (sz_fits h) (by decide)
theorem q01_ev : Ev (fun k => (lvl tab ext k).call 17 [(.pv (.int .i64 (0))), (.pv (.int .i64 (1)))]) [.pv (ofQ 0), (.pv (.bool (true)))] := qn1_ev (n := 0) (by decide)
theorem q11_ev : Ev (fun k => (lvl tab ext k).call 17 [(.pv (.int .i64 (1))), (.pv (.int .i64 (1)))]) [.pv (ofQ 1), (.pv (.bool (true)))] := qn1_ev (n := 1) (by decide)
theorem q12_ev : Ev (fun k => (lvl tab ext k).call 17 [(.pv (.int .i64 (1))), (.pv (.int .i64 (2)))]) [.pv (ofQ (1 / 2)), (.pv (.bool (true)))] := by
  have := qof_ev (n := 1) (d := 2) (by decide) (by decide) (by decide)
  rwa [Rat.divInt_eq_div] at this
theorem qz_zero : Qz 2 0 := qz_n1 (n := 0) (by decide)
theorem qz_one : Qz 2 1 := qz_n1 (n := 1) (by decide)
theorem qz_half : Qz 2 (1 / 2) := by
  have := qz_of (n := 1) (d := 2) (by decide) (by decide)
  rwa [Rat.divInt_eq_div] at this
theorem sz_floor {n : Nat} {r : Rat} (h : Qz n r) : Sz n r.floor := by rw [Rat.floor_def]; exact sz_div h.1
theorem sz_round {n : Nat} {r : Rat} (h : Qz n r) : Sz (n + 2) (rround r) := by
  have e : (rround r).natAbs = (2 * r.num.natAbs + r.den) / (2 * r.den) := by
    unfold rround
    generalize (2 * r.num.natAbs + r.den) / (2 * r.den) = q
    split <;> omega
  unfold Sz
  rw [e]
  have h1 := len_mono (Nat.div_le_self (2 * r.num.natAbs + r.den) (2 * r.den))
  have h2 := len_add (2 * r.num.natAbs) r.den
  have h3 := len_mul 2 r.num.natAbs
  have h4 := len_small (n := 2) (by decide)
  have h5 := h.1
  have h6 := h.2
  omega
theorem sameI {z : Int} {n : Nat} (h : Sz n z) (hn : n ≤ 1000000) : Ev (fun k => (lvl tab ext k).call 53 [.pv (ofZ z), .pv (ofZ z)]) [(.pv (.bool (true)))] := wsameInt_ev (sz_mono h hn)
theorem light_t {b : Bool} {l d : List Int} {n : Nat} (h : l.length ≤ n ∧ d.length ≤ n) {m : Int} (hm : m = n) : Ev (fun k => (lvl tab ext k).call 9 [.pv (QA b l d), (.pv (.int .i64 (m)))]) [(.pv (.bool (true)))] := by
  have := wlight_ev (b := b) (l := l) (d := d) (n := m)
  rwa [decide_eq_true (by omega)] at this
theorem light_f {b : Bool} {l d : List Int} {n : Nat} (h : ¬ (l.length ≤ n ∧ d.length ≤ n)) {m : Int} (hm : m = n) : Ev (fun k => (lvl tab ext k).call 9 [.pv (QA b l d), (.pv (.int .i64 (m)))]) [(.pv (.bool (false)))] := by
  have := wlight_ev (b := b) (l := l) (d := d) (n := m)
  rwa [decide_eq_false (by omega)] at this
theorem qz_qN (s : List UInt8) : Qz 200 (qN s) := by
  unfold qN
  refine qz_mk (zN_len _) (m := 200) ?_ (Nat.le_refl _) (Nat.le_refl _) (by decide)
  split
  · exact rparseN_lt _
  · rw [len_one]; decide
end Go.Proofs.Ytnmehcoigcjmlaa.V
