/- What the ratio functions of the program come to: quotient, Of, Norm, Cmp, Neg, Add, Sub, Mul, Div.
What the ratio functions of the program come to: Floor, Round, Text, Parse.
What the reference's ratio functions come to: reduce, Whole, Zero, Sign, Of, Norm, Cmp, Neg, Add, Sub, Mul, Div.
What the reference's ratio functions come to: Floor, Round, Text, Parse, Same, Light.
The laws' common parts for integers: their arguments, short, the examples.
The laws' common parts for ratios: their arguments, light, the examples.
The laws' common parts for ratios: small numbers, sizes. -/
import Derived.Test.YtpllmgmcfojmoaaKE
import Derived.Test.YtpllmgmcfojmoaaKG
import Derived.Test.YtpllmgmcfojmoaaKC
import Derived.Test.YtpllmgmcfojmoaaKF

set_option linter.unusedSimpArgs false
set_option linter.unusedVariables false
namespace Go.Proofs.Ytpllmgmcfojmoaa.V
open Go Go.Proofs.Ytpllmgmcfojmoaa.M
theorem one_ev : Ev (fun k => (lvl tab ext k).call 55 [(.pv (.int .u64 (1)))]) [(.own (.ints .u32 ([1])))] := by
  have := of_ev (a := 1) (by decide) (by decide)
  rwa [show (1 : Int).toNat = 1 from rfl, one_ofN] at this
theorem quotient_ev {p : PV} {z : Int} {d : List Int} (hp : IsZ p z) (hd : Lim d) (sd : d.length ≤ 1000000) : Ev (fun k => (lvl tab ext k).call 46 [.pv p, (.pv (.ints .u32 (d)))]) [.pv (ofQ (mkRat z (val d)))] := by
  have h1 := znorm_ev hp
  have h2 := norm_ev hd (by omega)
  have l2 := len_val_le hd
  obtain ⟨b, l, rfl, hl, hs, rfl⟩ := hp
  have sz : (absL (iv b l)).length ≤ 1000000 := sz_iv hl hs
  generalize iv b l = z at *
  generalize val d = D at *
  by_cases h0 : D = 0
  · subst h0
    rw [Rat.mkRat_zero, ofQ_zero]
    rw [ofN_zero] at h2
    refine Ev.call rfl tab46 ?_
    simp -implicitDefEqProofs (disch := omega) only [F46, go_sem, ↓reduceIte, reduceCtorEq, Nat.reduceAdd, Nat.reduceSub, Nat.reduceEqDiff, Nat.reduceLeDiff, Nat.reduceBEq]
    (refine Ev.bind (h1) ?_; simp -implicitDefEqProofs (disch := omega) only [go_sem, ↓reduceIte, reduceCtorEq, Nat.reduceAdd, Nat.reduceSub, Nat.reduceEqDiff, Nat.reduceLeDiff, Nat.reduceBEq]; refine Ev.bind (h2) ?_; simp -implicitDefEqProofs (disch := omega) only [go_sem, ↓reduceIte, reduceCtorEq, Nat.reduceAdd, Nat.reduceSub, Nat.reduceEqDiff, Nat.reduceLeDiff, Nat.reduceBEq]; refine Ev.bind (one_ev) ?_; simp -implicitDefEqProofs (disch := omega) only [go_sem, ↓reduceIte, reduceCtorEq, Nat.reduceAdd, Nat.reduceSub, Nat.reduceEqDiff, Nat.reduceLeDiff, Nat.reduceBEq])
    exact Ev.ret _
  · have hD : 0 < (ofN D).length := ofN_length_pos.2 (by omega)
    by_cases hz : z = 0
    · subst hz
      rw [Rat.zero_mkRat, ofQ_zero]
      rw [ofZ_nil] at h1
      refine Ev.call rfl tab46 ?_
      simp -implicitDefEqProofs (disch := omega) only [F46, go_sem, ↓reduceIte, reduceCtorEq, Nat.reduceAdd, Nat.reduceSub, Nat.reduceEqDiff, Nat.reduceLeDiff, Nat.reduceBEq]
      (refine Ev.bind (h1) ?_; simp -implicitDefEqProofs (disch := omega) only [go_sem, ↓reduceIte, reduceCtorEq, Nat.reduceAdd, Nat.reduceSub, Nat.reduceEqDiff, Nat.reduceLeDiff, Nat.reduceBEq]; refine Ev.bind (h2) ?_; simp -implicitDefEqProofs (disch := omega) only [go_sem, ↓reduceIte, reduceCtorEq, Nat.reduceAdd, Nat.reduceSub, Nat.reduceEqDiff, Nat.reduceLeDiff, Nat.reduceBEq]; refine Ev.bind (one_ev) ?_; simp -implicitDefEqProofs (disch := omega) only [go_sem, ↓reduceIte, reduceCtorEq, Nat.reduceAdd, Nat.reduceSub, Nat.reduceEqDiff, Nat.reduceLeDiff, Nat.reduceBEq])
      exact Ev.ret _
    · have ha := abs_pos hz
      have hg := gcd_ev (lim_abs z) (lim_ofN D) (by omega) (by omega)
      rw [val_abs, val_ofN] at hg
      have hG : Nat.gcd z.natAbs D ≠ 0 := by have := Nat.gcd_pos_of_pos_right z.natAbs (Nat.pos_of_ne_zero h0); omega
      have lG := len_mono (Nat.gcd_le_right z.natAbs (Nat.pos_of_ne_zero h0))
      rw [ofQ_mk z h0]
      generalize Nat.gcd z.natAbs D = G at *
      obtain ⟨o1, d1⟩ := divmod_ev (lim_abs z) (lim_ofN G) (by omega) (by omega) (by rw [val_ofN]; exact hG)
      obtain ⟨o2, d2⟩ := divmod_ev (lim_ofN D) (lim_ofN G) (by omega) (by omega) (by rw [val_ofN]; exact hG)
      rw [val_abs, val_ofN] at d1
      rw [val_ofN, val_ofN] at d2
      refine Ev.call rfl tab46 ?_
      simp -implicitDefEqProofs (disch := omega) only [F46, go_sem, ↓reduceIte, reduceCtorEq, Nat.reduceAdd, Nat.reduceSub, Nat.reduceEqDiff, Nat.reduceLeDiff, Nat.reduceBEq]
      (refine Ev.bind (h1) ?_; simp -implicitDefEqProofs (disch := omega) only [go_sem, ↓reduceIte, reduceCtorEq, Nat.reduceAdd, Nat.reduceSub, Nat.reduceEqDiff, Nat.reduceLeDiff, Nat.reduceBEq]; refine Ev.bind (h2) ?_; simp -implicitDefEqProofs (disch := omega) only [go_sem, ↓reduceIte, reduceCtorEq, Nat.reduceAdd, Nat.reduceSub, Nat.reduceEqDiff, Nat.reduceLeDiff, Nat.reduceBEq]; refine Ev.bind (hg) ?_; simp -implicitDefEqProofs (disch := omega) only [go_sem, ↓reduceIte, reduceCtorEq, Nat.reduceAdd, Nat.reduceSub, Nat.reduceEqDiff, Nat.reduceLeDiff, Nat.reduceBEq]; refine Ev.bind (d1) ?_; simp -implicitDefEqProofs (disch := omega) only [go_sem, ↓reduceIte, reduceCtorEq, Nat.reduceAdd, Nat.reduceSub, Nat.reduceEqDiff, Nat.reduceLeDiff, Nat.reduceBEq]; refine Ev.bind (d2) ?_; simp -implicitDefEqProofs (disch := omega) only [go_sem, ↓reduceIte, reduceCtorEq, Nat.reduceAdd, Nat.reduceSub, Nat.reduceEqDiff, Nat.reduceLeDiff, Nat.reduceBEq])
      exact Ev.ret _
theorem qnorm_ev {p : PV} {r : Rat} (hp : IsQ p r) : Ev (fun k => (lvl tab ext k).call 30 [.pv p]) [.pv (ofQ r)] := by
  obtain ⟨b, l, d, rfl, hl, hd, h1, h2, rfl⟩ := hp
  have q := quotient_ev (isZ_mk (b := b) hl (by omega)) hd (by omega)
  unfold rv
  generalize mkRat (iv b l) (val d) = r at *
  refine Ev.call rfl tab30 ?_
  simp -implicitDefEqProofs (disch := omega) only [F30, go_sem, ↓reduceIte, reduceCtorEq, Nat.reduceAdd, Nat.reduceSub, Nat.reduceEqDiff, Nat.reduceLeDiff, Nat.reduceBEq]
  (refine Ev.bind (q) ?_; simp -implicitDefEqProofs (disch := omega) only [go_sem, ↓reduceIte, reduceCtorEq, Nat.reduceAdd, Nat.reduceSub, Nat.reduceEqDiff, Nat.reduceLeDiff, Nat.reduceBEq])
  exact Ev.ret _
theorem qof_ev {n d : Int} (hn : Fits n) (hd : Fits d) (h0 : d ≠ 0) : Ev (fun k => (lvl tab ext k).call 12 [(.pv (.int .i64 (n))), (.pv (.int .i64 (d)))]) [.pv (ofQ (Rat.divInt n d)), (.pv (.bool (true)))] := by
  have o1 := zof_ev hn.1 hn.2
  have o2 := zof_ev hd.1 hd.2
  have sn : Sz 2 n := sz_int (by have := hn.1; omega) (by have := hn.2; omega)
  have sd : Sz 2 d := sz_int (by have := hd.1; omega) (by have := hd.2; omega)
  have hl : (absL d).length ≤ 2 := sd
  by_cases hneg : d < 0
  · have e1 : sgnB d = true := decide_eq_true hneg
    have g := zneg_ev (isZ_of (sz_mono sn (by decide)))
    have q := quotient_ev (isZ_of (sz_neg (sz_mono sn (by decide)))) (lim_abs d) (by omega)
    rw [val_abs, ← Rat.divInt_ofNat, show ((d.natAbs : Nat) : Int) = -d by omega, Rat.neg_divInt_neg] at q
    generalize Rat.divInt n d = r at *
    refine Ev.call rfl tab12 ?_
    simp -implicitDefEqProofs (disch := omega) only [F12, go_sem, ↓reduceIte, reduceCtorEq, Nat.reduceAdd, Nat.reduceSub, Nat.reduceEqDiff, Nat.reduceLeDiff, Nat.reduceBEq]
    (refine Ev.bind (o1) ?_; simp -implicitDefEqProofs (disch := omega) only [go_sem, ↓reduceIte, reduceCtorEq, Nat.reduceAdd, Nat.reduceSub, Nat.reduceEqDiff, Nat.reduceLeDiff, Nat.reduceBEq])
    refine Ev.bind o2 ?_
    simp -implicitDefEqProofs (disch := omega) only [e1, go_sem, ↓reduceIte, reduceCtorEq, Nat.reduceAdd, Nat.reduceSub, Nat.reduceEqDiff, Nat.reduceLeDiff, Nat.reduceBEq]
    (refine Ev.bind (g) ?_; simp -implicitDefEqProofs (disch := omega) only [go_sem, ↓reduceIte, reduceCtorEq, Nat.reduceAdd, Nat.reduceSub, Nat.reduceEqDiff, Nat.reduceLeDiff, Nat.reduceBEq]; refine Ev.bind (q) ?_; simp -implicitDefEqProofs (disch := omega) only [go_sem, ↓reduceIte, reduceCtorEq, Nat.reduceAdd, Nat.reduceSub, Nat.reduceEqDiff, Nat.reduceLeDiff, Nat.reduceBEq])
    exact Ev.ret _
  · have e1 : sgnB d = false := decide_eq_false hneg
    have q := quotient_ev (isZ_of (sz_mono sn (by decide))) (lim_abs d) (by omega)
    rw [val_abs, ← Rat.divInt_ofNat, show ((d.natAbs : Nat) : Int) = d by omega] at q
    generalize Rat.divInt n d = r at *
    refine Ev.call rfl tab12 ?_
    simp -implicitDefEqProofs (disch := omega) only [F12, go_sem, ↓reduceIte, reduceCtorEq, Nat.reduceAdd, Nat.reduceSub, Nat.reduceEqDiff, Nat.reduceLeDiff, Nat.reduceBEq]
    (refine Ev.bind (o1) ?_; simp -implicitDefEqProofs (disch := omega) only [go_sem, ↓reduceIte, reduceCtorEq, Nat.reduceAdd, Nat.reduceSub, Nat.reduceEqDiff, Nat.reduceLeDiff, Nat.reduceBEq])
    refine Ev.bind o2 ?_
    simp -implicitDefEqProofs (disch := omega) only [e1, go_sem, ↓reduceIte, reduceCtorEq, Nat.reduceAdd, Nat.reduceSub, Nat.reduceEqDiff, Nat.reduceLeDiff, Nat.reduceBEq]
    (refine Ev.bind (q) ?_; simp -implicitDefEqProofs (disch := omega) only [go_sem, ↓reduceIte, reduceCtorEq, Nat.reduceAdd, Nat.reduceSub, Nat.reduceEqDiff, Nat.reduceLeDiff, Nat.reduceBEq])
    exact Ev.ret _
theorem qof0_ev {n : Int} : Ev (fun k => (lvl tab ext k).call 12 [(.pv (.int .i64 (n))), (.pv (.int .i64 (0)))]) [.pv (.agg [.bool false, .ints .u32 [], .ints .u32 []]), (.pv (.bool (false)))] := by
  refine Ev.call rfl tab12 ?_
  simp -implicitDefEqProofs (disch := omega) only [F12, go_sem, ↓reduceIte, reduceCtorEq, Nat.reduceAdd, Nat.reduceSub, Nat.reduceEqDiff, Nat.reduceLeDiff, Nat.reduceBEq]
  exact Ev.ret _
theorem whole_ev {l : List Int} : Ev (fun k => (lvl tab ext k).call 51 [(.pv (.ints .u32 (l)))]) [.pv (.agg [.bool false, .ints .u32 l])] := by
  refine Ev.call rfl tab51 ?_
  simp -implicitDefEqProofs (disch := omega) only [F51, go_sem, ↓reduceIte, reduceCtorEq, Nat.reduceAdd, Nat.reduceSub, Nat.reduceEqDiff, Nat.reduceLeDiff, Nat.reduceBEq]
  exact Ev.ret _
theorem isZ_den {r : Rat} (h : Qz 1000000 r) : IsZ (.agg [.bool false, .ints .u32 (denL r)]) (r.den : Int) := ⟨false, denL r, rfl, lim_den r, h.2, by rw [iv_false, val_den]⟩
theorem isZ_num {r : Rat} (h : Qz 1000000 r) : IsZ (ofZ r.num) r.num := isZ_of h.1
theorem qcmp_ev {p q : PV} {r s : Rat} (hp : IsQ p r) (hq : IsQ q s) : Ev (fun k => (lvl tab ext k).call 29 [.pv p, .pv q]) [(.pv (.int .i64 (rcmp r s)))] := by
  have n1 := qnorm_ev hp
  have n2 := qnorm_ev hq
  have m1 := zmul_ev (isZ_num hp.qz6) (isZ_den hq.qz6)
  have m2 := zmul_ev (isZ_num hq.qz6) (isZ_den hp.qz6)
  have z1 := sz_mul (qz_num hp.qz) (qz_den hq.qz)
  have z2 := sz_mul (qz_num hq.qz) (qz_den hp.qz)
  have c := zcmp_ev (isZ_of (sz_mono z1 (by decide))) (isZ_of (sz_mono z2 (by decide)))
  obtain ⟨b, l, d, rfl, hl, hd, h1, h2, rfl⟩ := hp
  obtain ⟨b', l', d', rfl, hl', hd', h1', h2', rfl⟩ := hq
  generalize rv b l d = r at *
  generalize rv b' l' d' = s at *
  refine Ev.call rfl tab29 ?_
  simp -implicitDefEqProofs (disch := omega) only [F29, go_sem, ↓reduceIte, reduceCtorEq, Nat.reduceAdd, Nat.reduceSub, Nat.reduceEqDiff, Nat.reduceLeDiff, Nat.reduceBEq]
  (refine Ev.bind (n1) ?_; simp -implicitDefEqProofs (disch := omega) only [go_sem, ↓reduceIte, reduceCtorEq, Nat.reduceAdd, Nat.reduceSub, Nat.reduceEqDiff, Nat.reduceLeDiff, Nat.reduceBEq]; refine Ev.bind (n2) ?_; simp -implicitDefEqProofs (disch := omega) only [go_sem, ↓reduceIte, reduceCtorEq, Nat.reduceAdd, Nat.reduceSub, Nat.reduceEqDiff, Nat.reduceLeDiff, Nat.reduceBEq]; refine Ev.bind (whole_ev) ?_; simp -implicitDefEqProofs (disch := omega) only [go_sem, ↓reduceIte, reduceCtorEq, Nat.reduceAdd, Nat.reduceSub, Nat.reduceEqDiff, Nat.reduceLeDiff, Nat.reduceBEq]; refine Ev.bind (m1) ?_; simp -implicitDefEqProofs (disch := omega) only [go_sem, ↓reduceIte, reduceCtorEq, Nat.reduceAdd, Nat.reduceSub, Nat.reduceEqDiff, Nat.reduceLeDiff, Nat.reduceBEq]; refine Ev.bind (whole_ev) ?_; simp -implicitDefEqProofs (disch := omega) only [go_sem, ↓reduceIte, reduceCtorEq, Nat.reduceAdd, Nat.reduceSub, Nat.reduceEqDiff, Nat.reduceLeDiff, Nat.reduceBEq]; refine Ev.bind (m2) ?_; simp -implicitDefEqProofs (disch := omega) only [go_sem, ↓reduceIte, reduceCtorEq, Nat.reduceAdd, Nat.reduceSub, Nat.reduceEqDiff, Nat.reduceLeDiff, Nat.reduceBEq]; refine Ev.bind (c) ?_; simp -implicitDefEqProofs (disch := omega) only [go_sem, ↓reduceIte, reduceCtorEq, Nat.reduceAdd, Nat.reduceSub, Nat.reduceEqDiff, Nat.reduceLeDiff, Nat.reduceBEq])
  exact Ev.ret _
theorem qneg_ev {p : PV} {r : Rat} (hp : IsQ p r) : Ev (fun k => (lvl tab ext k).call 37 [.pv p]) [.pv (ofQ (-r))] := by
  have n1 := qnorm_ev hp
  have g := zneg_ev (isZ_num hp.qz6)
  obtain ⟨b, l, d, rfl, hl, hd, h1, h2, rfl⟩ := hp
  generalize rv b l d = r at *
  refine Ev.call rfl tab37 ?_
  simp -implicitDefEqProofs (disch := omega) only [F37, go_sem, ↓reduceIte, reduceCtorEq, Nat.reduceAdd, Nat.reduceSub, Nat.reduceEqDiff, Nat.reduceLeDiff, Nat.reduceBEq]
  (refine Ev.bind (n1) ?_; simp -implicitDefEqProofs (disch := omega) only [go_sem, ↓reduceIte, reduceCtorEq, Nat.reduceAdd, Nat.reduceSub, Nat.reduceEqDiff, Nat.reduceLeDiff, Nat.reduceBEq]; refine Ev.bind (g) ?_; simp -implicitDefEqProofs (disch := omega) only [go_sem, ↓reduceIte, reduceCtorEq, Nat.reduceAdd, Nat.reduceSub, Nat.reduceEqDiff, Nat.reduceLeDiff, Nat.reduceBEq])
  exact Ev.ret _
theorem den_mul {r s : Rat} (h1 : Qz 100000 r) (h2 : Qz 100000 s) : Ev (fun k => (lvl tab ext k).call 54 [(.pv (.ints .u32 (denL r))), (.pv (.ints .u32 (denL s)))]) [(.own (.ints .u32 (ofN (r.den * s.den))))] := by
  have := mul_ev (lim_den r) (lim_den s) (by have : (denL r).length ≤ 100000 := h1.2; have : (denL s).length ≤ 100000 := h2.2; omega)
  rwa [val_den, val_den] at this
theorem len_den {r s : Rat} (h1 : Qz 100000 r) (h2 : Qz 100000 s) : (ofN (r.den * s.den)).length ≤ 200000 := Nat.le_trans (len_mul _ _) (Nat.add_le_add h1.2 h2.2)
theorem qadd_ev {p q : PV} {r s : Rat} (hp : IsQ p r) (hq : IsQ q s) : Ev (fun k => (lvl tab ext k).call 31 [.pv p, .pv q]) [.pv (ofQ (r + s))] := by
  have n1 := qnorm_ev hp
  have n2 := qnorm_ev hq
  have m1 := zmul_ev (isZ_num hp.qz6) (isZ_den hq.qz6)
  have m2 := zmul_ev (isZ_num hq.qz6) (isZ_den hp.qz6)
  have z1 := sz_mul (qz_num hp.qz) (qz_den hq.qz)
  have z2 := sz_mul (qz_num hq.qz) (qz_den hp.qz)
  have a := zadd_ev (isZ_of (sz_mono z1 (by decide))) (isZ_of (sz_mono z2 (by decide)))
  have dm := den_mul hp.qz hq.qz
  have ld := len_den hp.qz hq.qz
  have qq := quotient_ev (isZ_of (sz_mono (sz_add z1 z2) (by decide))) (lim_ofN (r.den * s.den)) (by omega)
  rw [val_ofN, ← Rat.add_def'] at qq
  obtain ⟨b, l, d, rfl, hl, hd, h1, h2, rfl⟩ := hp
  obtain ⟨b', l', d', rfl, hl', hd', h1', h2', rfl⟩ := hq
  generalize rv b l d = r at *
  generalize rv b' l' d' = s at *
  generalize r + s = t at *
  refine Ev.call rfl tab31 ?_
  simp -implicitDefEqProofs (disch := omega) only [F31, go_sem, ↓reduceIte, reduceCtorEq, Nat.reduceAdd, Nat.reduceSub, Nat.reduceEqDiff, Nat.reduceLeDiff, Nat.reduceBEq]
  (refine Ev.bind (n1) ?_; simp -implicitDefEqProofs (disch := omega) only [go_sem, ↓reduceIte, reduceCtorEq, Nat.reduceAdd, Nat.reduceSub, Nat.reduceEqDiff, Nat.reduceLeDiff, Nat.reduceBEq]; refine Ev.bind (n2) ?_; simp -implicitDefEqProofs (disch := omega) only [go_sem, ↓reduceIte, reduceCtorEq, Nat.reduceAdd, Nat.reduceSub, Nat.reduceEqDiff, Nat.reduceLeDiff, Nat.reduceBEq]; refine Ev.bind (whole_ev) ?_; simp -implicitDefEqProofs (disch := omega) only [go_sem, ↓reduceIte, reduceCtorEq, Nat.reduceAdd, Nat.reduceSub, Nat.reduceEqDiff, Nat.reduceLeDiff, Nat.reduceBEq]; refine Ev.bind (m1) ?_; simp -implicitDefEqProofs (disch := omega) only [go_sem, ↓reduceIte, reduceCtorEq, Nat.reduceAdd, Nat.reduceSub, Nat.reduceEqDiff, Nat.reduceLeDiff, Nat.reduceBEq]; refine Ev.bind (whole_ev) ?_; simp -implicitDefEqProofs (disch := omega) only [go_sem, ↓reduceIte, reduceCtorEq, Nat.reduceAdd, Nat.reduceSub, Nat.reduceEqDiff, Nat.reduceLeDiff, Nat.reduceBEq]; refine Ev.bind (m2) ?_; simp -implicitDefEqProofs (disch := omega) only [go_sem, ↓reduceIte, reduceCtorEq, Nat.reduceAdd, Nat.reduceSub, Nat.reduceEqDiff, Nat.reduceLeDiff, Nat.reduceBEq]; refine Ev.bind (a) ?_; simp -implicitDefEqProofs (disch := omega) only [go_sem, ↓reduceIte, reduceCtorEq, Nat.reduceAdd, Nat.reduceSub, Nat.reduceEqDiff, Nat.reduceLeDiff, Nat.reduceBEq]; refine Ev.bind (dm) ?_; simp -implicitDefEqProofs (disch := omega) only [go_sem, ↓reduceIte, reduceCtorEq, Nat.reduceAdd, Nat.reduceSub, Nat.reduceEqDiff, Nat.reduceLeDiff, Nat.reduceBEq]; refine Ev.bind (qq) ?_; simp -implicitDefEqProofs (disch := omega) only [go_sem, ↓reduceIte, reduceCtorEq, Nat.reduceAdd, Nat.reduceSub, Nat.reduceEqDiff, Nat.reduceLeDiff, Nat.reduceBEq])
  exact Ev.ret _
theorem qsub_ev {p q : PV} {r s : Rat} (hp : IsQ p r) (hq : IsQ q s) : Ev (fun k => (lvl tab ext k).call 40 [.pv p, .pv q]) [.pv (ofQ (r - s))] := by
  have g := qneg_ev hq
  have a := qadd_ev hp (isQ_of (qz_neg hq.qz))
  rw [← Rat.sub_eq_add_neg] at a
  obtain ⟨b, l, d, rfl, hl, hd, h1, h2, rfl⟩ := hp
  obtain ⟨b', l', d', rfl, hl', hd', h1', h2', rfl⟩ := hq
  generalize rv b l d = r at *
  generalize rv b' l' d' = s at *
  generalize r - s = t at *
  generalize -s = s' at *
  refine Ev.call rfl tab40 ?_
  simp -implicitDefEqProofs (disch := omega) only [F40, go_sem, ↓reduceIte, reduceCtorEq, Nat.reduceAdd, Nat.reduceSub, Nat.reduceEqDiff, Nat.reduceLeDiff, Nat.reduceBEq]
  (refine Ev.bind (g) ?_; simp -implicitDefEqProofs (disch := omega) only [go_sem, ↓reduceIte, reduceCtorEq, Nat.reduceAdd, Nat.reduceSub, Nat.reduceEqDiff, Nat.reduceLeDiff, Nat.reduceBEq]; refine Ev.bind (a) ?_; simp -implicitDefEqProofs (disch := omega) only [go_sem, ↓reduceIte, reduceCtorEq, Nat.reduceAdd, Nat.reduceSub, Nat.reduceEqDiff, Nat.reduceLeDiff, Nat.reduceBEq])
  exact Ev.ret _
theorem qmul_ev {p q : PV} {r s : Rat} (hp : IsQ p r) (hq : IsQ q s) : Ev (fun k => (lvl tab ext k).call 32 [.pv p, .pv q]) [.pv (ofQ (r * s))] := by
  have n1 := qnorm_ev hp
  have n2 := qnorm_ev hq
  have m1 := zmul_ev (isZ_num hp.qz6) (isZ_num hq.qz6)
  have z1 := sz_mul (qz_num hp.qz) (qz_num hq.qz)
  have dm := den_mul hp.qz hq.qz
  have ld := len_den hp.qz hq.qz
  have qq := quotient_ev (isZ_of (sz_mono z1 (by decide))) (lim_ofN (r.den * s.den)) (by omega)
  rw [val_ofN, ← Rat.mul_def'] at qq
  obtain ⟨b, l, d, rfl, hl, hd, h1, h2, rfl⟩ := hp
  obtain ⟨b', l', d', rfl, hl', hd', h1', h2', rfl⟩ := hq
  generalize rv b l d = r at *
  generalize rv b' l' d' = s at *
  generalize r * s = t at *
  refine Ev.call rfl tab32 ?_
  simp -implicitDefEqProofs (disch := omega) only [F32, go_sem, ↓reduceIte, reduceCtorEq, Nat.reduceAdd, Nat.reduceSub, Nat.reduceEqDiff, Nat.reduceLeDiff, Nat.reduceBEq]
  (refine Ev.bind (n1) ?_; simp -implicitDefEqProofs (disch := omega) only [go_sem, ↓reduceIte, reduceCtorEq, Nat.reduceAdd, Nat.reduceSub, Nat.reduceEqDiff, Nat.reduceLeDiff, Nat.reduceBEq]; refine Ev.bind (n2) ?_; simp -implicitDefEqProofs (disch := omega) only [go_sem, ↓reduceIte, reduceCtorEq, Nat.reduceAdd, Nat.reduceSub, Nat.reduceEqDiff, Nat.reduceLeDiff, Nat.reduceBEq]; refine Ev.bind (m1) ?_; simp -implicitDefEqProofs (disch := omega) only [go_sem, ↓reduceIte, reduceCtorEq, Nat.reduceAdd, Nat.reduceSub, Nat.reduceEqDiff, Nat.reduceLeDiff, Nat.reduceBEq]; refine Ev.bind (dm) ?_; simp -implicitDefEqProofs (disch := omega) only [go_sem, ↓reduceIte, reduceCtorEq, Nat.reduceAdd, Nat.reduceSub, Nat.reduceEqDiff, Nat.reduceLeDiff, Nat.reduceBEq]; refine Ev.bind (qq) ?_; simp -implicitDefEqProofs (disch := omega) only [go_sem, ↓reduceIte, reduceCtorEq, Nat.reduceAdd, Nat.reduceSub, Nat.reduceEqDiff, Nat.reduceLeDiff, Nat.reduceBEq])
  exact Ev.ret _
theorem inv_rv {s : Rat} (hs : s ≠ 0) : rv (sgnB s.num) (denL s) (absL s.num) = s⁻¹ := by
  rw [inv_mk]
  unfold rv
  rw [val_abs]
  congr 1
  unfold sgnB iv
  rw [val_den]
  by_cases h : s.num < 0
  · rw [decide_eq_true h, if_pos rfl, if_pos h]
  · rw [decide_eq_false h, if_neg (by decide), if_neg h]
theorem num_ne {s : Rat} (hs : s ≠ 0) : s.num ≠ 0 := fun h => hs (Rat.num_eq_zero.1 h)
theorem qdiv_ev {p q : PV} {r s : Rat} (hp : IsQ p r) (hq : IsQ q s) (hs : s ≠ 0) : Ev (fun k => (lvl tab ext k).call 28 [.pv p, .pv q]) [.pv (ofQ (r / s)), (.pv (.bool (true)))] := by
  have n2 := qnorm_ev hq
  have ha := abs_pos (num_ne hs)
  have ii : IsQ (.agg [.bool (sgnB s.num), .ints .u32 (denL s), .ints .u32 (absL s.num)]) s⁻¹ := ⟨_, _, _, rfl, lim_den s, lim_abs _, hq.qz.2, hq.qz.1, inv_rv hs⟩
  have m := qmul_ev hp ii
  rw [← Rat.div_def] at m
  obtain ⟨b, l, d, rfl, hl, hd, h1, h2, rfl⟩ := hp
  obtain ⟨b', l', d', rfl, hl', hd', h1', h2', rfl⟩ := hq
  generalize rv b l d = r at *
  generalize rv b' l' d' = s at *
  generalize r / s = t at *
  refine Ev.call rfl tab28 ?_
  simp -implicitDefEqProofs (disch := omega) only [F28, go_sem, ↓reduceIte, reduceCtorEq, Nat.reduceAdd, Nat.reduceSub, Nat.reduceEqDiff, Nat.reduceLeDiff, Nat.reduceBEq]
  (refine Ev.bind (n2) ?_; simp -implicitDefEqProofs (disch := omega) only [go_sem, ↓reduceIte, reduceCtorEq, Nat.reduceAdd, Nat.reduceSub, Nat.reduceEqDiff, Nat.reduceLeDiff, Nat.reduceBEq]; refine Ev.bind (m) ?_; simp -implicitDefEqProofs (disch := omega) only [go_sem, ↓reduceIte, reduceCtorEq, Nat.reduceAdd, Nat.reduceSub, Nat.reduceEqDiff, Nat.reduceLeDiff, Nat.reduceBEq])
  exact Ev.ret _
theorem qdiv0_ev {p q : PV} {r : Rat} (hp : IsQ p r) (hq : IsQ q 0) : Ev (fun k => (lvl tab ext k).call 28 [.pv p, .pv q]) [.pv (.agg [.bool false, .ints .u32 [], .ints .u32 []]), (.pv (.bool (false)))] := by
  have n2 := qnorm_ev hq
  rw [ofQ_zero] at n2
  obtain ⟨b, l, d, rfl, hl, hd, h1, h2, rfl⟩ := hp
  obtain ⟨b', l', d', rfl, hl', hd', h1', h2', h0⟩ := hq
  refine Ev.call rfl tab28 ?_
  simp -implicitDefEqProofs (disch := omega) only [F28, go_sem, ↓reduceIte, reduceCtorEq, Nat.reduceAdd, Nat.reduceSub, Nat.reduceEqDiff, Nat.reduceLeDiff, Nat.reduceBEq]
  (refine Ev.bind (n2) ?_; simp -implicitDefEqProofs (disch := omega) only [go_sem, ↓reduceIte, reduceCtorEq, Nat.reduceAdd, Nat.reduceSub, Nat.reduceEqDiff, Nat.reduceLeDiff, Nat.reduceBEq])
  exact Ev.ret _
end Go.Proofs.Ytpllmgmcfojmoaa.V
set_option linter.unusedSimpArgs false
set_option linter.unusedVariables false
namespace Go.Proofs.Ytpllmgmcfojmoaa.V
open Go Go.Proofs.Ytpllmgmcfojmoaa.M
theorem qfloor_ev {p : PV} {r : Rat} (hp : IsQ p r) : Ev (fun k => (lvl tab ext k).call 18 [.pv p]) [.pv (ofZ r.floor)] := by
  have n1 := qnorm_ev hp
  have dm := zdivmod_ev (isZ_num hp.qz6) (isZ_den hp.qz6) (by have := r.den_pos; omega)
  rw [← Rat.floor_def] at dm
  obtain ⟨b, l, d, rfl, hl, hd, h1, h2, rfl⟩ := hp
  generalize rv b l d = r at *
  generalize r.floor = f at *
  generalize r.num % (r.den : Int) = m at *
  refine Ev.call rfl tab18 ?_
  simp -implicitDefEqProofs (disch := omega) only [F18, go_sem, ↓reduceIte, reduceCtorEq, Nat.reduceAdd, Nat.reduceSub, Nat.reduceEqDiff, Nat.reduceLeDiff, Nat.reduceBEq]
  (refine Ev.bind (n1) ?_; simp -implicitDefEqProofs (disch := omega) only [go_sem, ↓reduceIte, reduceCtorEq, Nat.reduceAdd, Nat.reduceSub, Nat.reduceEqDiff, Nat.reduceLeDiff, Nat.reduceBEq]; refine Ev.bind (whole_ev) ?_; simp -implicitDefEqProofs (disch := omega) only [go_sem, ↓reduceIte, reduceCtorEq, Nat.reduceAdd, Nat.reduceSub, Nat.reduceEqDiff, Nat.reduceLeDiff, Nat.reduceBEq]; refine Ev.bind (dm) ?_; simp -implicitDefEqProofs (disch := omega) only [go_sem, ↓reduceIte, reduceCtorEq, Nat.reduceAdd, Nat.reduceSub, Nat.reduceEqDiff, Nat.reduceLeDiff, Nat.reduceBEq])
  exact Ev.ret _
theorem two_ev : Ev (fun k => (lvl tab ext k).call 55 [(.pv (.int .u64 (2)))]) [(.own (.ints .u32 (ofN 2)))] := of_ev (a := 2) (by decide) (by decide)
theorem len_two : (ofN 2).length ≤ 1 := len_small (by decide)
theorem qround_ev {p : PV} {r : Rat} (hp : IsQ p r) : Ev (fun k => (lvl tab ext k).call 20 [.pv p]) [.pv (ofZ (rround r))] := by
  have n1 := qnorm_ev hp
  have q1 : (absL r.num).length ≤ 100000 := hp.qz.1
  have q2 : (denL r).length ≤ 100000 := hp.qz.2
  have l2 := len_two
  have m1 := mul_ev (lim_abs r.num) (lim_ofN 2) (by omega)
  rw [val_abs, val_ofN, Nat.mul_comm] at m1
  have lm1 : (ofN (2 * r.num.natAbs)).length ≤ 100001 := by
    have := len_mul 2 r.num.natAbs
    have : (ofN r.num.natAbs).length ≤ 100000 := hp.qz.1
    omega
  have a := add_ev (lim_ofN (2 * r.num.natAbs)) (lim_den r) (by omega) (by omega)
  rw [val_ofN, val_den] at a
  have la : (ofN (2 * r.num.natAbs + r.den)).length ≤ 100002 := by
    have := len_add (2 * r.num.natAbs) r.den
    have : (ofN r.den).length ≤ 100000 := hp.qz.2
    omega
  have m2 := mul_ev (lim_den r) (lim_ofN 2) (by omega)
  rw [val_den, val_ofN, Nat.mul_comm] at m2
  have lm2 : (ofN (2 * r.den)).length ≤ 100001 := by
    have := len_mul 2 r.den
    have : (ofN r.den).length ≤ 100000 := hp.qz.2
    omega
  have hpos := r.den_pos
  obtain ⟨o, d⟩ := divmod_ev (lim_ofN (2 * r.num.natAbs + r.den)) (lim_ofN (2 * r.den)) (by omega) (by omega) (by rw [val_ofN]; omega)
  rw [val_ofN, val_ofN] at d
  have lq := len_mono (Nat.div_le_self (2 * r.num.natAbs + r.den) (2 * r.den))
  have nn := znorm_ev (isZ_mk (b := sgnB r.num) (lim_ofN ((2 * r.num.natAbs + r.den) / (2 * r.den))) (by omega))
  have er : iv (sgnB r.num) (ofN ((2 * r.num.natAbs + r.den) / (2 * r.den))) = rround r := by
    unfold rround sgnB
    rw [iv_norm]
    by_cases h : r.num < 0
    · rw [decide_eq_true h, if_pos rfl, if_pos h]
    · rw [decide_eq_false h, if_neg (by decide), if_neg h]
  rw [er] at nn
  obtain ⟨b, l, dd, rfl, hl, hd, h1, h2, rfl⟩ := hp
  generalize rv b l dd = r at *
  generalize rround r = R at *
  generalize (2 * r.num.natAbs + r.den) / (2 * r.den) = Q at *
  generalize (2 * r.num.natAbs + r.den) % (2 * r.den) = Q2 at *
  generalize 2 * r.num.natAbs + r.den = A at *
  generalize 2 * r.num.natAbs = B at *
  generalize 2 * r.den = C at *
  refine Ev.call rfl tab20 ?_
  simp -implicitDefEqProofs (disch := omega) only [F20, go_sem, ↓reduceIte, reduceCtorEq, Nat.reduceAdd, Nat.reduceSub, Nat.reduceEqDiff, Nat.reduceLeDiff, Nat.reduceBEq]
  (refine Ev.bind (n1) ?_; simp -implicitDefEqProofs (disch := omega) only [go_sem, ↓reduceIte, reduceCtorEq, Nat.reduceAdd, Nat.reduceSub, Nat.reduceEqDiff, Nat.reduceLeDiff, Nat.reduceBEq]; refine Ev.bind (two_ev) ?_; simp -implicitDefEqProofs (disch := omega) only [go_sem, ↓reduceIte, reduceCtorEq, Nat.reduceAdd, Nat.reduceSub, Nat.reduceEqDiff, Nat.reduceLeDiff, Nat.reduceBEq]; refine Ev.bind (m1) ?_; simp -implicitDefEqProofs (disch := omega) only [go_sem, ↓reduceIte, reduceCtorEq, Nat.reduceAdd, Nat.reduceSub, Nat.reduceEqDiff, Nat.reduceLeDiff, Nat.reduceBEq]; refine Ev.bind (a) ?_; simp -implicitDefEqProofs (disch := omega) only [go_sem, ↓reduceIte, reduceCtorEq, Nat.reduceAdd, Nat.reduceSub, Nat.reduceEqDiff, Nat.reduceLeDiff, Nat.reduceBEq]; refine Ev.bind (two_ev) ?_; simp -implicitDefEqProofs (disch := omega) only [go_sem, ↓reduceIte, reduceCtorEq, Nat.reduceAdd, Nat.reduceSub, Nat.reduceEqDiff, Nat.reduceLeDiff, Nat.reduceBEq]; refine Ev.bind (m2) ?_; simp -implicitDefEqProofs (disch := omega) only [go_sem, ↓reduceIte, reduceCtorEq, Nat.reduceAdd, Nat.reduceSub, Nat.reduceEqDiff, Nat.reduceLeDiff, Nat.reduceBEq]; refine Ev.bind (d) ?_; simp -implicitDefEqProofs (disch := omega) only [go_sem, ↓reduceIte, reduceCtorEq, Nat.reduceAdd, Nat.reduceSub, Nat.reduceEqDiff, Nat.reduceLeDiff, Nat.reduceBEq]; refine Ev.bind (nn) ?_; simp -implicitDefEqProofs (disch := omega) only [go_sem, ↓reduceIte, reduceCtorEq, Nat.reduceAdd, Nat.reduceSub, Nat.reduceEqDiff, Nat.reduceLeDiff, Nat.reduceBEq])
  exact Ev.ret _
theorem qone_ev {n : Nat} (hn : (ofN n).length ≤ 1000000) : Ev (fun k => (lvl tab ext k).call 64 [(.pv (.ints .u32 (ofN n)))]) [(.pv (.bool (decide (n = 1))))] := by
  by_cases h1 : n = 1
  · subst h1
    rw [decide_eq_true rfl, one_ofN]
    refine Ev.call rfl tab64 ?_
    simp -implicitDefEqProofs (disch := omega) only [F64, go_sem, ↓reduceIte, reduceCtorEq, Nat.reduceAdd, Nat.reduceSub, Nat.reduceEqDiff, Nat.reduceLeDiff, Nat.reduceBEq]
    exact Ev.ret _
  · rw [decide_eq_false h1]
    by_cases hl : (ofN n).length = 1
    · have e : (ofN n).getD 0 0 = (n : Int) := by
        have hv := val_ofN n
        match hL : ofN n with
        | [] => rw [hL] at hl; cases hl
        | [x] =>
          have hlim := lim_ofN n
          rw [hL] at hv hlim
          have := (lim_cons.1 hlim).1
          simp [val] at hv
          show x = _
          omega
        | _ :: _ :: _ => rw [hL] at hl; simp at hl
      generalize ofN n = L at *
      refine Ev.call rfl tab64 ?_
      simp -implicitDefEqProofs (disch := omega) only [F64, e, go_sem, ↓reduceIte, reduceCtorEq, Nat.reduceAdd, Nat.reduceSub, Nat.reduceEqDiff, Nat.reduceLeDiff, Nat.reduceBEq]
      exact Ev.ret _
    · generalize ofN n = L at *
      refine Ev.call rfl tab64 ?_
      simp -implicitDefEqProofs (disch := omega) only [F64, go_sem, ↓reduceIte, reduceCtorEq, Nat.reduceAdd, Nat.reduceSub, Nat.reduceEqDiff, Nat.reduceLeDiff, Nat.reduceBEq]
      exact Ev.ret _
theorem qtext_ev {p : PV} {r : Rat} (hp : IsQ p r) : Ev (fun k => (lvl tab ext k).call 22 [.pv p]) [(.pv (.str (textQ r)))] := by
  have n1 := qnorm_ev hp
  have q1 : (ofN r.num.natAbs).length ≤ 100000 := hp.qz.1
  have q2 : (denL r).length ≤ 100000 := hp.qz.2
  have t1 := ztext_ev (isZ_num hp.qz6)
  have o1 : Ev (fun k => (lvl tab ext k).call 64 [(.pv (.ints .u32 (denL r)))]) [(.pv (.bool (decide (r.den = 1))))] := qone_ev hp.qz6.2
  have t2 := text_ev (lim_den r) (by omega)
  rw [val_den] at t2
  have l1 := textZ_len r.num
  have l2 : (textN r.den).length ≤ 32 * (denL r).length + 1 := textN_len r.den
  unfold textQ
  obtain ⟨b, l, dd, rfl, hl, hd, h1, h2, rfl⟩ := hp
  generalize rv b l dd = r at *
  generalize textZ r.num = T1 at *
  generalize textN r.den = T2 at *
  by_cases h : r.den = 1
  · rw [if_pos h]
    rw [decide_eq_true h] at o1
    refine Ev.call rfl tab22 ?_
    simp -implicitDefEqProofs (disch := omega) only [F22, go_sem, ↓reduceIte, reduceCtorEq, Nat.reduceAdd, Nat.reduceSub, Nat.reduceEqDiff, Nat.reduceLeDiff, Nat.reduceBEq]
    (refine Ev.bind (n1) ?_; simp -implicitDefEqProofs (disch := omega) only [go_sem, ↓reduceIte, reduceCtorEq, Nat.reduceAdd, Nat.reduceSub, Nat.reduceEqDiff, Nat.reduceLeDiff, Nat.reduceBEq]; refine Ev.bind (t1) ?_; simp -implicitDefEqProofs (disch := omega) only [go_sem, ↓reduceIte, reduceCtorEq, Nat.reduceAdd, Nat.reduceSub, Nat.reduceEqDiff, Nat.reduceLeDiff, Nat.reduceBEq]; refine Ev.bind (o1) ?_; simp -implicitDefEqProofs (disch := omega) only [go_sem, ↓reduceIte, reduceCtorEq, Nat.reduceAdd, Nat.reduceSub, Nat.reduceEqDiff, Nat.reduceLeDiff, Nat.reduceBEq])
    exact Ev.ret _
  · rw [if_neg h, show T1 ++ 47 :: T2 = T1 ++ [47] ++ T2 by simp]
    rw [decide_eq_false h] at o1
    refine Ev.call rfl tab22 ?_
    simp -implicitDefEqProofs (disch := omega) only [F22, go_sem, ↓reduceIte, reduceCtorEq, Nat.reduceAdd, Nat.reduceSub, Nat.reduceEqDiff, Nat.reduceLeDiff, Nat.reduceBEq]
    (refine Ev.bind (n1) ?_; simp -implicitDefEqProofs (disch := omega) only [go_sem, ↓reduceIte, reduceCtorEq, Nat.reduceAdd, Nat.reduceSub, Nat.reduceEqDiff, Nat.reduceLeDiff, Nat.reduceBEq]; refine Ev.bind (t1) ?_; simp -implicitDefEqProofs (disch := omega) only [go_sem, ↓reduceIte, reduceCtorEq, Nat.reduceAdd, Nat.reduceSub, Nat.reduceEqDiff, Nat.reduceLeDiff, Nat.reduceBEq]; refine Ev.bind (o1) ?_; simp -implicitDefEqProofs (disch := omega) only [go_sem, ↓reduceIte, reduceCtorEq, Nat.reduceAdd, Nat.reduceSub, Nat.reduceEqDiff, Nat.reduceLeDiff, Nat.reduceBEq])
    refine Ev.bind t2 ?_
    simp -implicitDefEqProofs (disch := omega) only [List.length_append, List.length_cons, List.length_nil, go_sem, ↓reduceIte, reduceCtorEq, Nat.reduceAdd, Nat.reduceSub, Nat.reduceEqDiff, Nat.reduceLeDiff, Nat.reduceBEq]
    exact Ev.ret _
theorem index_ev (s : List UInt8) (hs : s.length ≤ 1000000) : Ev (fun k => (lvl tab ext k).call 108 [(.pv (.str (s))), (.pv (.str ([47])))]) [(.pv (.int .i64 (if cutN s < s.length then (cutN s : Int) else -1)))] := by
  have e := idxB_cut s 0
  have e7 : (UInt8.toNat 47).toUInt8 = 47 := rfl
  by_cases h : [47] = s
  · subst h
    refine Ev.call rfl tab108 ?_
    simp -implicitDefEqProofs (disch := omega) only [F108, go_sem, ↓reduceIte, reduceCtorEq, Nat.reduceAdd, Nat.reduceSub, Nat.reduceEqDiff, Nat.reduceLeDiff, Nat.reduceBEq]
    exact Ev.ret _
  · have hd : decide ([47] = s) = false := decide_eq_false h
    refine Ev.call rfl tab108 ?_
    simp -implicitDefEqProofs (disch := omega) only [F108, hd, go_sem, ↓reduceIte, reduceCtorEq, Nat.reduceAdd, Nat.reduceSub, Nat.reduceEqDiff, Nat.reduceLeDiff, Nat.reduceBEq]
    refine Ev.bind (?_ : Ev _ ([(.pv (.int .i64 (if cutN s < s.length then (cutN s : Int) else -1)))] : List AR)) ?_
    · refine Ev.call rfl tab110 ?_
      simp -implicitDefEqProofs (disch := omega) only [F110, e7, e, Nat.add_zero, go_sem, ↓reduceIte, reduceCtorEq, Nat.reduceAdd, Nat.reduceSub, Nat.reduceEqDiff, Nat.reduceLeDiff, Nat.reduceBEq]
      exact Ev.ret _
    · simp -implicitDefEqProofs (disch := omega) only [go_sem, ↓reduceIte, reduceCtorEq, Nat.reduceAdd, Nat.reduceSub, Nat.reduceEqDiff, Nat.reduceLeDiff, Nat.reduceBEq]
      exact Ev.ret _
theorem cut_ev (s : List UInt8) (hs : s.length ≤ 1000000) : Ev (fun k => (lvl tab ext k).call 68 [(.pv (.str (s))), (.pv (.str ([47])))]) [(.pv (.str (preT s))), (.pv (.str (postT s))), (.pv (.bool (decide (cutN s < s.length))))] := by
  have hi := index_ev s hs
  have hle := cutN_le s
  refine Ev.call rfl tab68 ?_
  simp -implicitDefEqProofs (disch := omega) only [F68, go_sem, ↓reduceIte, reduceCtorEq, Nat.reduceAdd, Nat.reduceSub, Nat.reduceEqDiff, Nat.reduceLeDiff, Nat.reduceBEq]
  refine Ev.bind (?_ : Ev _ [(.pv (.str (preT s))), (.pv (.str (postT s))), (.pv (.bool (decide (cutN s < s.length))))]) ?_
  · unfold preT postT
    by_cases h : cutN s < s.length
    · rw [if_pos h] at hi
      rw [decide_eq_true h]
      have e1 : (s.drop (cutN s + 1)).take (s.length - (cutN s + 1)) = s.drop (cutN s + 1) := List.take_of_length_le (by rw [List.length_drop]; omega)
      have e2 : ((cutN s : Int) + ((1 : Nat) : Int)).toNat = cutN s + 1 := by omega
      have e0 : s.drop 0 = s := rfl
      generalize cutN s = c at *
      refine Ev.call rfl tab102 ?_
      simp -implicitDefEqProofs (disch := omega) only [F102, go_sem, ↓reduceIte, reduceCtorEq, Nat.reduceAdd, Nat.reduceSub, Nat.reduceEqDiff, Nat.reduceLeDiff, Nat.reduceBEq]
      refine Ev.bind hi ?_
      simp -implicitDefEqProofs (disch := omega) only [e2, e1, e0, Nat.sub_zero, go_sem, ↓reduceIte, reduceCtorEq, Nat.reduceAdd, Nat.reduceSub, Nat.reduceEqDiff, Nat.reduceLeDiff, Nat.reduceBEq]
      exact Ev.ret _
    · rw [if_neg h] at hi
      rw [decide_eq_false h]
      have e1 : s.take (cutN s) = s := List.take_of_length_le (by omega)
      have e2 : s.drop (cutN s + 1) = [] := List.drop_of_length_le (by omega)
      rw [e1, e2]
      refine Ev.call rfl tab102 ?_
      simp -implicitDefEqProofs (disch := omega) only [F102, go_sem, ↓reduceIte, reduceCtorEq, Nat.reduceAdd, Nat.reduceSub, Nat.reduceEqDiff, Nat.reduceLeDiff, Nat.reduceBEq]
      refine Ev.bind hi ?_
      simp -implicitDefEqProofs (disch := omega) only [go_sem, ↓reduceIte, reduceCtorEq, Nat.reduceAdd, Nat.reduceSub, Nat.reduceEqDiff, Nat.reduceLeDiff, Nat.reduceBEq]
      exact Ev.ret _
  · simp -implicitDefEqProofs (disch := omega) only [go_sem, ↓reduceIte, reduceCtorEq, Nat.reduceAdd, Nat.reduceSub, Nat.reduceEqDiff, Nat.reduceLeDiff, Nat.reduceBEq]
    exact Ev.ret _
theorem nE_cases (s : List UInt8) : nE s = 0 ∨ nE s = 2 ∨ nE s = 5 := by unfold nE; split <;> (try split) <;> omega
theorem zE_cases (s : List UInt8) : zE s = 0 ∨ zE s = 2 ∨ zE s = 5 := by unfold zE; split <;> (try split) <;> (try split) <;> omega
theorem nN_len (s : List UInt8) : (ofN (nN s)).length ≤ 200 := parseN_lt s
theorem qparse_ev (s : List UInt8) (hs : s.length ≤ 1000000) : Ev (fun k => (lvl tab ext k).call 24 [(.pv (.str (s)))]) [.pv (qP s), (.pv (.int .i64 (qE s)))] := by
  have hc := cut_ev s hs
  have lp : (preT s).length ≤ s.length := by unfold preT; rw [List.length_take]; omega
  have lq : (postT s).length ≤ s.length := by unfold postT; rw [List.length_drop]; omega
  have p1 := zparse_ev (preT s) (by omega)
  obtain ⟨o, p2⟩ : ∃ o, Ev (fun k => (lvl tab ext k).call 70 [(.pv (.str (postT s)))]) [ar o (.ints .u32 (ofN (nN (postT s)))), (.pv (.int .i64 (nE (postT s))))] := parse_ev (postT s) (by omega)
  have c1 := zE_cases (preT s)
  have c2 := nE_cases (postT s)
  have s1 := zN_len (preT s)
  have s2 := nN_len (postT s)
  unfold qP qE qN zeroQ
  generalize zE (preT s) = E1 at *
  generalize zN (preT s) = Z at *
  generalize nE (postT s) = E2 at *
  generalize nN (postT s) = M at *
  have sz1 : (absL Z).length ≤ 200 := s1
  by_cases h1 : E1 = 0
  · subst h1
    rw [if_pos rfl]
    by_cases h2 : cutN s < s.length
    · rw [decide_eq_true h2] at hc
      rw [if_pos h2, if_pos h2]
      by_cases h3 : E2 = 0
      · subst h3
        rw [if_pos rfl]
        by_cases h4 : M = 0
        · subst h4
          rw [if_pos (show (0 : Nat) ≤ 1 ∨ Nat.gcd Z.natAbs 0 ≠ 1 from .inl (by omega)), if_neg (show ¬ ((2 : Int) = 0) by decide)]
          rw [ofN_zero] at p2
          refine Ev.call rfl tab24 ?_
          simp -implicitDefEqProofs (disch := omega) only [F24, go_sem, ↓reduceIte, reduceCtorEq, Nat.reduceAdd, Nat.reduceSub, Nat.reduceEqDiff, Nat.reduceLeDiff, Nat.reduceBEq]
          (refine Ev.bind (hc) ?_; simp -implicitDefEqProofs (disch := omega) only [go_sem, ↓reduceIte, reduceCtorEq, Nat.reduceAdd, Nat.reduceSub, Nat.reduceEqDiff, Nat.reduceLeDiff, Nat.reduceBEq]; refine Ev.bind (p1) ?_; simp -implicitDefEqProofs (disch := omega) only [go_sem, ↓reduceIte, reduceCtorEq, Nat.reduceAdd, Nat.reduceSub, Nat.reduceEqDiff, Nat.reduceLeDiff, Nat.reduceBEq]; refine Ev.bind (p2) ?_; simp -implicitDefEqProofs (disch := omega) only [go_sem, ↓reduceIte, reduceCtorEq, Nat.reduceAdd, Nat.reduceSub, Nat.reduceEqDiff, Nat.reduceLeDiff, Nat.reduceBEq])
          exact Ev.ret _
        · have hm := ofN_length_pos.2 (Nat.pos_of_ne_zero h4)
          have o1 := qone_ev (n := M) (by omega)
          by_cases h5 : M = 1
          · rw [decide_eq_true h5] at o1
            rw [if_pos (show M ≤ 1 ∨ Nat.gcd Z.natAbs M ≠ 1 from .inl (by omega)), if_neg (show ¬ ((2 : Int) = 0) by decide)]
            refine Ev.call rfl tab24 ?_
            simp -implicitDefEqProofs (disch := omega) only [F24, go_sem, ↓reduceIte, reduceCtorEq, Nat.reduceAdd, Nat.reduceSub, Nat.reduceEqDiff, Nat.reduceLeDiff, Nat.reduceBEq]
            (refine Ev.bind (hc) ?_; simp -implicitDefEqProofs (disch := omega) only [go_sem, ↓reduceIte, reduceCtorEq, Nat.reduceAdd, Nat.reduceSub, Nat.reduceEqDiff, Nat.reduceLeDiff, Nat.reduceBEq]; refine Ev.bind (p1) ?_; simp -implicitDefEqProofs (disch := omega) only [go_sem, ↓reduceIte, reduceCtorEq, Nat.reduceAdd, Nat.reduceSub, Nat.reduceEqDiff, Nat.reduceLeDiff, Nat.reduceBEq]; refine Ev.bind (p2) ?_; simp -implicitDefEqProofs (disch := omega) only [go_sem, ↓reduceIte, reduceCtorEq, Nat.reduceAdd, Nat.reduceSub, Nat.reduceEqDiff, Nat.reduceLeDiff, Nat.reduceBEq]; refine Ev.bind (o1) ?_; simp -implicitDefEqProofs (disch := omega) only [go_sem, ↓reduceIte, reduceCtorEq, Nat.reduceAdd, Nat.reduceSub, Nat.reduceEqDiff, Nat.reduceLeDiff, Nat.reduceBEq])
            exact Ev.ret _
          · rw [decide_eq_false h5] at o1
            have g := gcd_ev (lim_abs Z) (lim_ofN M) (by omega) (by omega)
            rw [val_abs, val_ofN] at g
            have lg := len_mono (Nat.gcd_le_right Z.natAbs (Nat.pos_of_ne_zero h4))
            have o2 := qone_ev (n := Nat.gcd Z.natAbs M) (by omega)
            by_cases h6 : Nat.gcd Z.natAbs M = 1
            · rw [decide_eq_true h6] at o2
              rw [if_neg (show ¬ (M ≤ 1 ∨ Nat.gcd Z.natAbs M ≠ 1) by omega), if_pos rfl]
              have q := quotient_ev (isZ_of (sz_mono s1 (by decide))) (lim_ofN M) (by omega)
              rw [val_ofN] at q
              clear h6 lg
              generalize Nat.gcd Z.natAbs M = G at *
              generalize mkRat Z M = R at *
              refine Ev.call rfl tab24 ?_
              simp -implicitDefEqProofs (disch := omega) only [F24, go_sem, ↓reduceIte, reduceCtorEq, Nat.reduceAdd, Nat.reduceSub, Nat.reduceEqDiff, Nat.reduceLeDiff, Nat.reduceBEq]
              (refine Ev.bind (hc) ?_; simp -implicitDefEqProofs (disch := omega) only [go_sem, ↓reduceIte, reduceCtorEq, Nat.reduceAdd, Nat.reduceSub, Nat.reduceEqDiff, Nat.reduceLeDiff, Nat.reduceBEq]; refine Ev.bind (p1) ?_; simp -implicitDefEqProofs (disch := omega) only [go_sem, ↓reduceIte, reduceCtorEq, Nat.reduceAdd, Nat.reduceSub, Nat.reduceEqDiff, Nat.reduceLeDiff, Nat.reduceBEq]; refine Ev.bind (p2) ?_; simp -implicitDefEqProofs (disch := omega) only [go_sem, ↓reduceIte, reduceCtorEq, Nat.reduceAdd, Nat.reduceSub, Nat.reduceEqDiff, Nat.reduceLeDiff, Nat.reduceBEq]; refine Ev.bind (o1) ?_; simp -implicitDefEqProofs (disch := omega) only [go_sem, ↓reduceIte, reduceCtorEq, Nat.reduceAdd, Nat.reduceSub, Nat.reduceEqDiff, Nat.reduceLeDiff, Nat.reduceBEq]; refine Ev.bind (g) ?_; simp -implicitDefEqProofs (disch := omega) only [go_sem, ↓reduceIte, reduceCtorEq, Nat.reduceAdd, Nat.reduceSub, Nat.reduceEqDiff, Nat.reduceLeDiff, Nat.reduceBEq]; refine Ev.bind (o2) ?_; simp -implicitDefEqProofs (disch := omega) only [go_sem, ↓reduceIte, reduceCtorEq, Nat.reduceAdd, Nat.reduceSub, Nat.reduceEqDiff, Nat.reduceLeDiff, Nat.reduceBEq]; refine Ev.bind (q) ?_; simp -implicitDefEqProofs (disch := omega) only [go_sem, ↓reduceIte, reduceCtorEq, Nat.reduceAdd, Nat.reduceSub, Nat.reduceEqDiff, Nat.reduceLeDiff, Nat.reduceBEq])
              exact Ev.ret _
            · rw [decide_eq_false h6] at o2
              rw [if_pos (show M ≤ 1 ∨ Nat.gcd Z.natAbs M ≠ 1 from .inr h6), if_neg (show ¬ ((2 : Int) = 0) by decide)]
              clear h6 lg
              generalize Nat.gcd Z.natAbs M = G at *
              refine Ev.call rfl tab24 ?_
              simp -implicitDefEqProofs (disch := omega) only [F24, go_sem, ↓reduceIte, reduceCtorEq, Nat.reduceAdd, Nat.reduceSub, Nat.reduceEqDiff, Nat.reduceLeDiff, Nat.reduceBEq]
              (refine Ev.bind (hc) ?_; simp -implicitDefEqProofs (disch := omega) only [go_sem, ↓reduceIte, reduceCtorEq, Nat.reduceAdd, Nat.reduceSub, Nat.reduceEqDiff, Nat.reduceLeDiff, Nat.reduceBEq]; refine Ev.bind (p1) ?_; simp -implicitDefEqProofs (disch := omega) only [go_sem, ↓reduceIte, reduceCtorEq, Nat.reduceAdd, Nat.reduceSub, Nat.reduceEqDiff, Nat.reduceLeDiff, Nat.reduceBEq]; refine Ev.bind (p2) ?_; simp -implicitDefEqProofs (disch := omega) only [go_sem, ↓reduceIte, reduceCtorEq, Nat.reduceAdd, Nat.reduceSub, Nat.reduceEqDiff, Nat.reduceLeDiff, Nat.reduceBEq]; refine Ev.bind (o1) ?_; simp -implicitDefEqProofs (disch := omega) only [go_sem, ↓reduceIte, reduceCtorEq, Nat.reduceAdd, Nat.reduceSub, Nat.reduceEqDiff, Nat.reduceLeDiff, Nat.reduceBEq]; refine Ev.bind (g) ?_; simp -implicitDefEqProofs (disch := omega) only [go_sem, ↓reduceIte, reduceCtorEq, Nat.reduceAdd, Nat.reduceSub, Nat.reduceEqDiff, Nat.reduceLeDiff, Nat.reduceBEq]; refine Ev.bind (o2) ?_; simp -implicitDefEqProofs (disch := omega) only [go_sem, ↓reduceIte, reduceCtorEq, Nat.reduceAdd, Nat.reduceSub, Nat.reduceEqDiff, Nat.reduceLeDiff, Nat.reduceBEq])
              exact Ev.ret _
      · rw [if_neg h3, if_neg h3]
        refine Ev.call rfl tab24 ?_
        simp -implicitDefEqProofs (disch := omega) only [F24, go_sem, ↓reduceIte, reduceCtorEq, Nat.reduceAdd, Nat.reduceSub, Nat.reduceEqDiff, Nat.reduceLeDiff, Nat.reduceBEq]
        (refine Ev.bind (hc) ?_; simp -implicitDefEqProofs (disch := omega) only [go_sem, ↓reduceIte, reduceCtorEq, Nat.reduceAdd, Nat.reduceSub, Nat.reduceEqDiff, Nat.reduceLeDiff, Nat.reduceBEq]; refine Ev.bind (p1) ?_; simp -implicitDefEqProofs (disch := omega) only [go_sem, ↓reduceIte, reduceCtorEq, Nat.reduceAdd, Nat.reduceSub, Nat.reduceEqDiff, Nat.reduceLeDiff, Nat.reduceBEq]; refine Ev.bind (p2) ?_; simp -implicitDefEqProofs (disch := omega) only [go_sem, ↓reduceIte, reduceCtorEq, Nat.reduceAdd, Nat.reduceSub, Nat.reduceEqDiff, Nat.reduceLeDiff, Nat.reduceBEq])
        exact Ev.ret _
    · rw [decide_eq_false h2] at hc
      rw [if_neg h2, if_pos rfl, if_neg h2]
      have q := quotient_ev (isZ_of (sz_mono s1 (by decide))) (lim_ofN 1) (by rw [one_ofN]; decide)
      rw [val_ofN, one_ofN] at q
      generalize mkRat Z 1 = R at *
      refine Ev.call rfl tab24 ?_
      simp -implicitDefEqProofs (disch := omega) only [F24, go_sem, ↓reduceIte, reduceCtorEq, Nat.reduceAdd, Nat.reduceSub, Nat.reduceEqDiff, Nat.reduceLeDiff, Nat.reduceBEq]
      (refine Ev.bind (hc) ?_; simp -implicitDefEqProofs (disch := omega) only [go_sem, ↓reduceIte, reduceCtorEq, Nat.reduceAdd, Nat.reduceSub, Nat.reduceEqDiff, Nat.reduceLeDiff, Nat.reduceBEq]; refine Ev.bind (p1) ?_; simp -implicitDefEqProofs (disch := omega) only [go_sem, ↓reduceIte, reduceCtorEq, Nat.reduceAdd, Nat.reduceSub, Nat.reduceEqDiff, Nat.reduceLeDiff, Nat.reduceBEq]; refine Ev.bind (one_ev) ?_; simp -implicitDefEqProofs (disch := omega) only [go_sem, ↓reduceIte, reduceCtorEq, Nat.reduceAdd, Nat.reduceSub, Nat.reduceEqDiff, Nat.reduceLeDiff, Nat.reduceBEq]; refine Ev.bind (q) ?_; simp -implicitDefEqProofs (disch := omega) only [go_sem, ↓reduceIte, reduceCtorEq, Nat.reduceAdd, Nat.reduceSub, Nat.reduceEqDiff, Nat.reduceLeDiff, Nat.reduceBEq])
      exact Ev.ret _
  · rw [if_neg h1, if_neg h1]
    refine Ev.call rfl tab24 ?_
    simp -implicitDefEqProofs (disch := omega) only [F24, go_sem, ↓reduceIte, reduceCtorEq, Nat.reduceAdd, Nat.reduceSub, Nat.reduceEqDiff, Nat.reduceLeDiff, Nat.reduceBEq]
    (refine Ev.bind (hc) ?_; simp -implicitDefEqProofs (disch := omega) only [go_sem, ↓reduceIte, reduceCtorEq, Nat.reduceAdd, Nat.reduceSub, Nat.reduceEqDiff, Nat.reduceLeDiff, Nat.reduceBEq]; refine Ev.bind (p1) ?_; simp -implicitDefEqProofs (disch := omega) only [go_sem, ↓reduceIte, reduceCtorEq, Nat.reduceAdd, Nat.reduceSub, Nat.reduceEqDiff, Nat.reduceLeDiff, Nat.reduceBEq])
    exact Ev.ret _
end Go.Proofs.Ytpllmgmcfojmoaa.V
set_option linter.unusedSimpArgs false
set_option linter.unusedVariables false
namespace Go.Proofs.Ytpllmgmcfojmoaa.V
open Go Go.Proofs.Ytpllmgmcfojmoaa.M
theorem red_num {b : Bool} {l d : List Int} (h0 : val d ≠ 0) : iv b (ofN (val l / Nat.gcd (val l) (val d))) = (rv b l d).num := by
  have hg : 0 < Nat.gcd (val l) (val d) := Nat.gcd_pos_of_pos_right _ (Nat.pos_of_ne_zero h0)
  obtain ⟨k, h1, h2⟩ := mk_split (iv b l) h0
  unfold rv
  rw [h2, iv_norm]
  rw [iv_abs] at h1
  obtain ⟨q, hq⟩ := Nat.gcd_dvd_left (val l) (val d)
  generalize Nat.gcd (val l) (val d) = g at *
  rw [hq, Nat.mul_div_cancel_left _ hg]
  unfold iv at h1
  rw [hq] at h1
  have hg' : (g : Int) ≠ 0 := by omega
  cases b
  · rw [if_neg (by decide)] at h1 ⊢
    rw [Int.natCast_mul] at h1
    exact Int.eq_of_mul_eq_mul_left hg' h1
  · rw [if_pos rfl] at h1 ⊢
    rw [Int.natCast_mul, ← Int.mul_neg] at h1
    exact Int.eq_of_mul_eq_mul_left hg' h1
theorem red_den {b : Bool} {l d : List Int} (h0 : val d ≠ 0) : ofN (val d / Nat.gcd (val l) (val d)) = denL (rv b l d) := by
  unfold denL rv
  rw [mk_den _ h0, iv_abs]
theorem reduce_ev {b : Bool} {l d : List Int} (hl : Lim l) (hd : Lim d) (s1 : l.length ≤ 1000000) (s2 : d.length ≤ 1000000) (h0 : val d ≠ 0) : Ev (fun k => (lvl tab ext k).call 48 [(.pv (.bool (b))), (.pv (.ints .u32 (l))), (.pv (.ints .u32 (d)))]) [.pv (ofQ (rv b l d))] := by
  have g := rgcd_ev hl hd (by omega) (by omega)
  have hG : Nat.gcd (val l) (val d) ≠ 0 := by have := Nat.gcd_pos_of_pos_right (val l) (Nat.pos_of_ne_zero h0); omega
  have lG := len_mono (Nat.gcd_le_right (val l) (Nat.pos_of_ne_zero h0))
  have l1 := len_val_le hl
  have l2 := len_val_le hd
  have d1 := rdivmod_ev hl (lim_ofN (Nat.gcd (val l) (val d))) (by omega) (by omega) (by rw [val_ofN]; exact hG)
  have d2 := rdivmod_ev hd (lim_ofN (Nat.gcd (val l) (val d))) (by omega) (by omega) (by rw [val_ofN]; exact hG)
  rw [val_ofN] at d1 d2
  have nn := ynorm_ev (isZ_mk (b := b) (lim_ofN (val l / Nat.gcd (val l) (val d))) (by have := len_mono (Nat.div_le_self (val l) (Nat.gcd (val l) (val d))); omega))
  rw [red_num h0] at nn
  rw [red_den (b := b) h0] at d2
  clear lG hG
  generalize rv b l d = r at *
  generalize Nat.gcd (val l) (val d) = G at *
  refine Ev.call rfl tab48 ?_
  simp -implicitDefEqProofs (disch := omega) only [F48, go_sem, ↓reduceIte, reduceCtorEq, Nat.reduceAdd, Nat.reduceSub, Nat.reduceEqDiff, Nat.reduceLeDiff, Nat.reduceBEq]
  (refine Ev.bind (g) ?_; simp -implicitDefEqProofs (disch := omega) only [go_sem, ↓reduceIte, reduceCtorEq, Nat.reduceAdd, Nat.reduceSub, Nat.reduceEqDiff, Nat.reduceLeDiff, Nat.reduceBEq]; refine Ev.bind (d1) ?_; simp -implicitDefEqProofs (disch := omega) only [go_sem, ↓reduceIte, reduceCtorEq, Nat.reduceAdd, Nat.reduceSub, Nat.reduceEqDiff, Nat.reduceLeDiff, Nat.reduceBEq]; refine Ev.bind (d2) ?_; simp -implicitDefEqProofs (disch := omega) only [go_sem, ↓reduceIte, reduceCtorEq, Nat.reduceAdd, Nat.reduceSub, Nat.reduceEqDiff, Nat.reduceLeDiff, Nat.reduceBEq]; refine Ev.bind (nn) ?_; simp -implicitDefEqProofs (disch := omega) only [go_sem, ↓reduceIte, reduceCtorEq, Nat.reduceAdd, Nat.reduceSub, Nat.reduceEqDiff, Nat.reduceLeDiff, Nat.reduceBEq])
  exact Ev.ret _
theorem rone_ev : Ev (fun k => (lvl tab ext k).call 58 [(.pv (.int .u64 (1)))]) [(.own (.ints .u32 ([1])))] := by
  have := rof_ev (a := 1) (by decide) (by decide)
  rwa [show (1 : Int).toNat = 1 from rfl, one_ofN] at this
theorem cellsWhole (z : Int) : PV.agg [.bool (sgnB z), .ints .u32 (absL z), .ints .u32 [1]] = ofQ (z : Rat) := by
  rw [← one_ofN]; rfl
theorem wwhole_ev {n : Int} (h : Fits n) : Ev (fun k => (lvl tab ext k).call 84 [(.pv (.int .i64 (n)))]) [.pv (ofQ (n : Rat))] := by
  have o := yof_ev h.1 h.2
  rw [← cellsWhole]
  refine Ev.call rfl tab84 ?_
  simp -implicitDefEqProofs (disch := omega) only [F84, go_sem, ↓reduceIte, reduceCtorEq, Nat.reduceAdd, Nat.reduceSub, Nat.reduceEqDiff, Nat.reduceLeDiff, Nat.reduceBEq]
  (refine Ev.bind (o) ?_; simp -implicitDefEqProofs (disch := omega) only [go_sem, ↓reduceIte, reduceCtorEq, Nat.reduceAdd, Nat.reduceSub, Nat.reduceEqDiff, Nat.reduceLeDiff, Nat.reduceBEq]; refine Ev.bind (rone_ev) ?_; simp -implicitDefEqProofs (disch := omega) only [go_sem, ↓reduceIte, reduceCtorEq, Nat.reduceAdd, Nat.reduceSub, Nat.reduceEqDiff, Nat.reduceLeDiff, Nat.reduceBEq])
  exact Ev.ret _
theorem rv_eq_zero {b : Bool} {l d : List Int} : rv b l d = 0 ↔ val l = 0 ∨ val d = 0 := by
  constructor
  · intro h
    by_cases h0 : val d = 0
    · exact .inr h0
    · left
      have := (Rat.mkRat_eq_zero h0).1 h
      have := iv_or b l
      omega
  · exact rv_zero
theorem wzero_ev {p : PV} {r : Rat} (hp : IsQ p r) : Ev (fun k => (lvl tab ext k).call 81 [.pv p]) [(.pv (.bool (decide (r = 0))))] := by
  obtain ⟨b, l, d, rfl, hl, hd, h1, h2, rfl⟩ := hp
  have n1 := rnorm_ev hl (by omega)
  have n2 := rnorm_ev hd (by omega)
  have e1 := @ofN_length_pos (val l)
  have e2 := @ofN_length_pos (val d)
  by_cases h : val l = 0
  · rw [decide_eq_true (rv_zero (.inl h))]
    have : (ofN (val l)).length = 0 := by omega
    clear e1 e2
    refine Ev.call rfl tab81 ?_
    simp -implicitDefEqProofs (disch := omega) only [F81, go_sem, ↓reduceIte, reduceCtorEq, Nat.reduceAdd, Nat.reduceSub, Nat.reduceEqDiff, Nat.reduceLeDiff, Nat.reduceBEq]
    (refine Ev.bind (n1) ?_; simp -implicitDefEqProofs (disch := omega) only [go_sem, ↓reduceIte, reduceCtorEq, Nat.reduceAdd, Nat.reduceSub, Nat.reduceEqDiff, Nat.reduceLeDiff, Nat.reduceBEq])
    exact Ev.ret _
  · have q1 : 0 < (ofN (val l)).length := by omega
    by_cases h' : val d = 0
    · rw [decide_eq_true (rv_zero (.inr h'))]
      have : (ofN (val d)).length = 0 := by omega
      clear e1 e2
      refine Ev.call rfl tab81 ?_
      simp -implicitDefEqProofs (disch := omega) only [F81, go_sem, ↓reduceIte, reduceCtorEq, Nat.reduceAdd, Nat.reduceSub, Nat.reduceEqDiff, Nat.reduceLeDiff, Nat.reduceBEq]
      (refine Ev.bind (n1) ?_; simp -implicitDefEqProofs (disch := omega) only [go_sem, ↓reduceIte, reduceCtorEq, Nat.reduceAdd, Nat.reduceSub, Nat.reduceEqDiff, Nat.reduceLeDiff, Nat.reduceBEq]; refine Ev.bind (n2) ?_; simp -implicitDefEqProofs (disch := omega) only [go_sem, ↓reduceIte, reduceCtorEq, Nat.reduceAdd, Nat.reduceSub, Nat.reduceEqDiff, Nat.reduceLeDiff, Nat.reduceBEq])
      exact Ev.ret _
    · have q2 : 0 < (ofN (val d)).length := by omega
      rw [decide_eq_false (fun e => by rcases rv_eq_zero.1 e with e | e <;> omega)]
      clear e1 e2
      refine Ev.call rfl tab81 ?_
      simp -implicitDefEqProofs (disch := omega) only [F81, go_sem, ↓reduceIte, reduceCtorEq, Nat.reduceAdd, Nat.reduceSub, Nat.reduceEqDiff, Nat.reduceLeDiff, Nat.reduceBEq]
      (refine Ev.bind (n1) ?_; simp -implicitDefEqProofs (disch := omega) only [go_sem, ↓reduceIte, reduceCtorEq, Nat.reduceAdd, Nat.reduceSub, Nat.reduceEqDiff, Nat.reduceLeDiff, Nat.reduceBEq]; refine Ev.bind (n2) ?_; simp -implicitDefEqProofs (disch := omega) only [go_sem, ↓reduceIte, reduceCtorEq, Nat.reduceAdd, Nat.reduceSub, Nat.reduceEqDiff, Nat.reduceLeDiff, Nat.reduceBEq])
      exact Ev.ret _
theorem wnorm_ev {p : PV} {r : Rat} (hp : IsQ p r) : Ev (fun k => (lvl tab ext k).call 36 [.pv p]) [.pv (ofQ r)] := by
  have z := wzero_ev hp
  obtain ⟨b, l, d, rfl, hl, hd, h1, h2, rfl⟩ := hp
  by_cases h : rv b l d = 0
  · rw [decide_eq_true h] at z
    rw [h]
    have w := wwhole_ev (n := 0) (by decide)
    rw [show ((0 : Int) : Rat) = 0 from rfl] at w
    clear h
    refine Ev.call rfl tab36 ?_
    simp -implicitDefEqProofs (disch := omega) only [F36, go_sem, ↓reduceIte, reduceCtorEq, Nat.reduceAdd, Nat.reduceSub, Nat.reduceEqDiff, Nat.reduceLeDiff, Nat.reduceBEq]
    (refine Ev.bind (z) ?_; simp -implicitDefEqProofs (disch := omega) only [go_sem, ↓reduceIte, reduceCtorEq, Nat.reduceAdd, Nat.reduceSub, Nat.reduceEqDiff, Nat.reduceLeDiff, Nat.reduceBEq]; refine Ev.bind (w) ?_; simp -implicitDefEqProofs (disch := omega) only [go_sem, ↓reduceIte, reduceCtorEq, Nat.reduceAdd, Nat.reduceSub, Nat.reduceEqDiff, Nat.reduceLeDiff, Nat.reduceBEq])
    exact Ev.ret _
  · rw [decide_eq_false h] at z
    have q := reduce_ev (b := b) hl hd (by omega) (by omega) (fun e => h (rv_zero (.inr e)))
    clear h
    generalize rv b l d = r at *
    refine Ev.call rfl tab36 ?_
    simp -implicitDefEqProofs (disch := omega) only [F36, go_sem, ↓reduceIte, reduceCtorEq, Nat.reduceAdd, Nat.reduceSub, Nat.reduceEqDiff, Nat.reduceLeDiff, Nat.reduceBEq]
    (refine Ev.bind (z) ?_; simp -implicitDefEqProofs (disch := omega) only [go_sem, ↓reduceIte, reduceCtorEq, Nat.reduceAdd, Nat.reduceSub, Nat.reduceEqDiff, Nat.reduceLeDiff, Nat.reduceBEq]; refine Ev.bind (q) ?_; simp -implicitDefEqProofs (disch := omega) only [go_sem, ↓reduceIte, reduceCtorEq, Nat.reduceAdd, Nat.reduceSub, Nat.reduceEqDiff, Nat.reduceLeDiff, Nat.reduceBEq])
    exact Ev.ret _
theorem of_rv (n d : Int) : rv (decide (¬ sgnB n = sgnB d)) (absL n) (absL d) = Rat.divInt n d := by
  have hn := iv_sgn n
  unfold rv
  rw [val_abs, ← Rat.divInt_ofNat]
  by_cases h : d < 0
  · rw [show sgnB d = true from decide_eq_true h, show ((d.natAbs : Nat) : Int) = -d by omega]
    have e : iv (decide (¬ sgnB n = true)) (absL n) = -n := by
      have key : ∀ (c : Bool) (L : List Int), iv (decide (¬ c = true)) L = -iv c L := by intro c L; cases c <;> simp [iv]
      rw [key, hn]
    rw [e, Rat.neg_divInt_neg]
  · rw [show sgnB d = false from decide_eq_false h, show ((d.natAbs : Nat) : Int) = d by omega]
    have e : decide (¬ sgnB n = false) = sgnB n := by cases sgnB n <;> rfl
    rw [e, hn]
theorem wof_ev {n d : Int} (hn : Fits n) (hd : Fits d) (h0 : d ≠ 0) : Ev (fun k => (lvl tab ext k).call 13 [(.pv (.int .i64 (n))), (.pv (.int .i64 (d)))]) [.pv (ofQ (Rat.divInt n d)), (.pv (.bool (true)))] := by
  have o1 := yof_ev hn.1 hn.2
  have o2 := yof_ev hd.1 hd.2
  have sn : (absL n).length ≤ 2 := sz_int (by have := hn.1; omega) (by have := hn.2; omega)
  have sd : (absL d).length ≤ 2 := sz_int (by have := hd.1; omega) (by have := hd.2; omega)
  have q := reduce_ev (b := decide (¬ sgnB n = sgnB d)) (lim_abs n) (lim_abs d) (by omega) (by omega) (by rw [val_abs]; omega)
  rw [of_rv] at q
  generalize Rat.divInt n d = r at *
  refine Ev.call rfl tab13 ?_
  simp -implicitDefEqProofs (disch := omega) only [F13, go_sem, ↓reduceIte, reduceCtorEq, Nat.reduceAdd, Nat.reduceSub, Nat.reduceEqDiff, Nat.reduceLeDiff, Nat.reduceBEq]
  (refine Ev.bind (o1) ?_; simp -implicitDefEqProofs (disch := omega) only [go_sem, ↓reduceIte, reduceCtorEq, Nat.reduceAdd, Nat.reduceSub, Nat.reduceEqDiff, Nat.reduceLeDiff, Nat.reduceBEq]; refine Ev.bind (o2) ?_; simp -implicitDefEqProofs (disch := omega) only [go_sem, ↓reduceIte, reduceCtorEq, Nat.reduceAdd, Nat.reduceSub, Nat.reduceEqDiff, Nat.reduceLeDiff, Nat.reduceBEq]; refine Ev.bind (q) ?_; simp -implicitDefEqProofs (disch := omega) only [go_sem, ↓reduceIte, reduceCtorEq, Nat.reduceAdd, Nat.reduceSub, Nat.reduceEqDiff, Nat.reduceLeDiff, Nat.reduceBEq])
  exact Ev.ret _
theorem wof0_ev {n : Int} : Ev (fun k => (lvl tab ext k).call 13 [(.pv (.int .i64 (n))), (.pv (.int .i64 (0)))]) [.pv zeroQ, (.pv (.bool (false)))] := by
  refine Ev.call rfl tab13 ?_
  simp -implicitDefEqProofs (disch := omega) only [F13, go_sem, ↓reduceIte, reduceCtorEq, Nat.reduceAdd, Nat.reduceSub, Nat.reduceEqDiff, Nat.reduceLeDiff, Nat.reduceBEq]
  exact Ev.ret _
theorem jsZ_den {r : Rat} (h : Qz 1000000 r) : IsZ (.agg [.bool false, .ints .u32 (denL r)]) (r.den : Int) := ⟨false, denL r, rfl, lim_den r, h.2, by rw [iv_false, val_den]⟩
theorem wcmp_ev {p q : PV} {r s : Rat} (hp : IsQ p r) (hq : IsQ q s) : Ev (fun k => (lvl tab ext k).call 35 [.pv p, .pv q]) [(.pv (.int .i64 (rcmp r s)))] := by
  have n1 := wnorm_ev hp
  have n2 := wnorm_ev hq
  have m1 := ymul_ev (isZ_of hp.qz6.1) (jsZ_den hq.qz6)
  have m2 := ymul_ev (isZ_of hq.qz6.1) (jsZ_den hp.qz6)
  have z1 := sz_mono (sz_mul (qz_num hp.qz) (qz_den hq.qz)) (show 100000 + 100000 ≤ 1000000 by decide)
  have z2 := sz_mono (sz_mul (qz_num hq.qz) (qz_den hp.qz)) (show 100000 + 100000 ≤ 1000000 by decide)
  have c := ycmp_ev (isZ_of z1) (isZ_of z2) z1 z2
  unfold M.rcmp
  obtain ⟨b, l, d, rfl, hl, hd, h1, h2, rfl⟩ := hp
  obtain ⟨b', l', d', rfl, hl', hd', h1', h2', rfl⟩ := hq
  generalize rv b l d = r at *
  generalize rv b' l' d' = s at *
  refine Ev.call rfl tab35 ?_
  simp -implicitDefEqProofs (disch := omega) only [F35, go_sem, ↓reduceIte, reduceCtorEq, Nat.reduceAdd, Nat.reduceSub, Nat.reduceEqDiff, Nat.reduceLeDiff, Nat.reduceBEq]
  (refine Ev.bind (n1) ?_; simp -implicitDefEqProofs (disch := omega) only [go_sem, ↓reduceIte, reduceCtorEq, Nat.reduceAdd, Nat.reduceSub, Nat.reduceEqDiff, Nat.reduceLeDiff, Nat.reduceBEq]; refine Ev.bind (n2) ?_; simp -implicitDefEqProofs (disch := omega) only [go_sem, ↓reduceIte, reduceCtorEq, Nat.reduceAdd, Nat.reduceSub, Nat.reduceEqDiff, Nat.reduceLeDiff, Nat.reduceBEq]; refine Ev.bind (m1) ?_; simp -implicitDefEqProofs (disch := omega) only [go_sem, ↓reduceIte, reduceCtorEq, Nat.reduceAdd, Nat.reduceSub, Nat.reduceEqDiff, Nat.reduceLeDiff, Nat.reduceBEq]; refine Ev.bind (m2) ?_; simp -implicitDefEqProofs (disch := omega) only [go_sem, ↓reduceIte, reduceCtorEq, Nat.reduceAdd, Nat.reduceSub, Nat.reduceEqDiff, Nat.reduceLeDiff, Nat.reduceBEq]; refine Ev.bind (c) ?_; simp -implicitDefEqProofs (disch := omega) only [go_sem, ↓reduceIte, reduceCtorEq, Nat.reduceAdd, Nat.reduceSub, Nat.reduceEqDiff, Nat.reduceLeDiff, Nat.reduceBEq])
  exact Ev.ret _
theorem wneg_ev {p : PV} {r : Rat} (hp : IsQ p r) : Ev (fun k => (lvl tab ext k).call 38 [.pv p]) [.pv (ofQ (-r))] := by
  have n1 := wnorm_ev hp
  have g := yneg_ev (isZ_of hp.qz6.1)
  obtain ⟨b, l, d, rfl, hl, hd, h1, h2, rfl⟩ := hp
  generalize rv b l d = r at *
  refine Ev.call rfl tab38 ?_
  simp -implicitDefEqProofs (disch := omega) only [F38, go_sem, ↓reduceIte, reduceCtorEq, Nat.reduceAdd, Nat.reduceSub, Nat.reduceEqDiff, Nat.reduceLeDiff, Nat.reduceBEq]
  (refine Ev.bind (n1) ?_; simp -implicitDefEqProofs (disch := omega) only [go_sem, ↓reduceIte, reduceCtorEq, Nat.reduceAdd, Nat.reduceSub, Nat.reduceEqDiff, Nat.reduceLeDiff, Nat.reduceBEq]; refine Ev.bind (g) ?_; simp -implicitDefEqProofs (disch := omega) only [go_sem, ↓reduceIte, reduceCtorEq, Nat.reduceAdd, Nat.reduceSub, Nat.reduceEqDiff, Nat.reduceLeDiff, Nat.reduceBEq])
  exact Ev.ret _
theorem wden_mul {r s : Rat} (h1 : Qz 100000 r) (h2 : Qz 100000 s) : Ev (fun k => (lvl tab ext k).call 61 [(.pv (.ints .u32 (denL r))), (.pv (.ints .u32 (denL s)))]) [(.own (.ints .u32 (ofN (r.den * s.den))))] := by
  have := rmul_ev (lim_den r) (lim_den s) (by have : (denL r).length ≤ 100000 := h1.2; have : (denL s).length ≤ 100000 := h2.2; omega)
  rwa [val_den, val_den] at this
theorem wlen_den {r s : Rat} (h1 : Qz 100000 r) (h2 : Qz 100000 s) : (ofN (r.den * s.den)).length ≤ 200000 := Nat.le_trans (len_mul _ _) (Nat.add_le_add h1.2 h2.2)
theorem den_ne (r s : Rat) : val (ofN (r.den * s.den)) ≠ 0 := by rw [val_ofN]; have := Nat.mul_pos r.den_pos s.den_pos; omega
theorem wadd_ev {p q : PV} {r s : Rat} (hp : IsQ p r) (hq : IsQ q s) : Ev (fun k => (lvl tab ext k).call 39 [.pv p, .pv q]) [.pv (ofQ (r + s))] := by
  have n1 := wnorm_ev hp
  have n2 := wnorm_ev hq
  have m1 := ymul_ev (isZ_of hp.qz6.1) (jsZ_den hq.qz6)
  have m2 := ymul_ev (isZ_of hq.qz6.1) (jsZ_den hp.qz6)
  have z1 := sz_mul (qz_num hp.qz) (qz_den hq.qz)
  have z2 := sz_mul (qz_num hq.qz) (qz_den hp.qz)
  have a := yadd_ev (isZ_of (sz_mono z1 (by decide))) (isZ_of (sz_mono z2 (by decide)))
  have dm := wden_mul hp.qz hq.qz
  have ld := wlen_den hp.qz hq.qz
  have qq := reduce_ev (b := sgnB (r.num * s.den + s.num * r.den)) (lim_abs _) (lim_ofN (r.den * s.den)) (sz_mono (sz_add z1 z2) (by decide)) (by omega) (den_ne r s)
  unfold rv at qq
  rw [iv_sgn, val_ofN, ← Rat.add_def'] at qq
  obtain ⟨b, l, d, rfl, hl, hd, h1, h2, rfl⟩ := hp
  obtain ⟨b', l', d', rfl, hl', hd', h1', h2', rfl⟩ := hq
  generalize rv b l d = r at *
  generalize rv b' l' d' = s at *
  generalize r + s = t at *
  refine Ev.call rfl tab39 ?_
  simp -implicitDefEqProofs (disch := omega) only [F39, go_sem, ↓reduceIte, reduceCtorEq, Nat.reduceAdd, Nat.reduceSub, Nat.reduceEqDiff, Nat.reduceLeDiff, Nat.reduceBEq]
  (refine Ev.bind (n1) ?_; simp -implicitDefEqProofs (disch := omega) only [go_sem, ↓reduceIte, reduceCtorEq, Nat.reduceAdd, Nat.reduceSub, Nat.reduceEqDiff, Nat.reduceLeDiff, Nat.reduceBEq]; refine Ev.bind (n2) ?_; simp -implicitDefEqProofs (disch := omega) only [go_sem, ↓reduceIte, reduceCtorEq, Nat.reduceAdd, Nat.reduceSub, Nat.reduceEqDiff, Nat.reduceLeDiff, Nat.reduceBEq]; refine Ev.bind (m1) ?_; simp -implicitDefEqProofs (disch := omega) only [go_sem, ↓reduceIte, reduceCtorEq, Nat.reduceAdd, Nat.reduceSub, Nat.reduceEqDiff, Nat.reduceLeDiff, Nat.reduceBEq]; refine Ev.bind (m2) ?_; simp -implicitDefEqProofs (disch := omega) only [go_sem, ↓reduceIte, reduceCtorEq, Nat.reduceAdd, Nat.reduceSub, Nat.reduceEqDiff, Nat.reduceLeDiff, Nat.reduceBEq]; refine Ev.bind (a) ?_; simp -implicitDefEqProofs (disch := omega) only [go_sem, ↓reduceIte, reduceCtorEq, Nat.reduceAdd, Nat.reduceSub, Nat.reduceEqDiff, Nat.reduceLeDiff, Nat.reduceBEq]; refine Ev.bind (dm) ?_; simp -implicitDefEqProofs (disch := omega) only [go_sem, ↓reduceIte, reduceCtorEq, Nat.reduceAdd, Nat.reduceSub, Nat.reduceEqDiff, Nat.reduceLeDiff, Nat.reduceBEq]; refine Ev.bind (qq) ?_; simp -implicitDefEqProofs (disch := omega) only [go_sem, ↓reduceIte, reduceCtorEq, Nat.reduceAdd, Nat.reduceSub, Nat.reduceEqDiff, Nat.reduceLeDiff, Nat.reduceBEq])
  exact Ev.ret _
theorem wsub_ev {p q : PV} {r s : Rat} (hp : IsQ p r) (hq : IsQ q s) : Ev (fun k => (lvl tab ext k).call 41 [.pv p, .pv q]) [.pv (ofQ (r - s))] := by
  have g := wneg_ev hq
  have a := wadd_ev hp (isQ_of (qz_neg hq.qz))
  rw [← Rat.sub_eq_add_neg] at a
  obtain ⟨b, l, d, rfl, hl, hd, h1, h2, rfl⟩ := hp
  obtain ⟨b', l', d', rfl, hl', hd', h1', h2', rfl⟩ := hq
  generalize rv b l d = r at *
  generalize rv b' l' d' = s at *
  generalize r - s = t at *
  generalize -s = s' at *
  refine Ev.call rfl tab41 ?_
  simp -implicitDefEqProofs (disch := omega) only [F41, go_sem, ↓reduceIte, reduceCtorEq, Nat.reduceAdd, Nat.reduceSub, Nat.reduceEqDiff, Nat.reduceLeDiff, Nat.reduceBEq]
  (refine Ev.bind (g) ?_; simp -implicitDefEqProofs (disch := omega) only [go_sem, ↓reduceIte, reduceCtorEq, Nat.reduceAdd, Nat.reduceSub, Nat.reduceEqDiff, Nat.reduceLeDiff, Nat.reduceBEq]; refine Ev.bind (a) ?_; simp -implicitDefEqProofs (disch := omega) only [go_sem, ↓reduceIte, reduceCtorEq, Nat.reduceAdd, Nat.reduceSub, Nat.reduceEqDiff, Nat.reduceLeDiff, Nat.reduceBEq])
  exact Ev.ret _
theorem iv_times (b c : Bool) (m n : Nat) : iv (decide (¬ b = c)) (ofN (m * n)) = iv b (ofN m) * iv c (ofN n) := by
  rw [iv_norm, iv_norm, iv_norm]
  cases b <;> cases c <;> simp [Int.neg_mul, Int.mul_neg]
theorem mul_rv (r s : Rat) : rv (decide (¬ sgnB r.num = sgnB s.num)) (ofN (r.num.natAbs * s.num.natAbs)) (ofN (r.den * s.den)) = r * s := by
  unfold rv
  rw [iv_times, val_ofN, Rat.mul_def']
  unfold sgnB
  rw [iv_ofN, iv_ofN]
theorem wmul_ev {p q : PV} {r s : Rat} (hp : IsQ p r) (hq : IsQ q s) : Ev (fun k => (lvl tab ext k).call 42 [.pv p, .pv q]) [.pv (ofQ (r * s))] := by
  have n1 := wnorm_ev hp
  have n2 := wnorm_ev hq
  have q1 : (absL r.num).length ≤ 100000 := hp.qz.1
  have q2 : (absL s.num).length ≤ 100000 := hq.qz.1
  have m1 := rmul_ev (lim_abs r.num) (lim_abs s.num) (by omega)
  rw [val_abs, val_abs] at m1
  have lm := len_mul r.num.natAbs s.num.natAbs
  have lm' : (ofN (r.num.natAbs * s.num.natAbs)).length ≤ 200000 := Nat.le_trans lm (Nat.add_le_add hp.qz.1 hq.qz.1)
  have dm := wden_mul hp.qz hq.qz
  have ld := wlen_den hp.qz hq.qz
  have qq := reduce_ev (b := decide (¬ sgnB r.num = sgnB s.num)) (lim_ofN (r.num.natAbs * s.num.natAbs)) (lim_ofN (r.den * s.den)) (by omega) (by omega) (den_ne r s)
  rw [mul_rv] at qq
  clear lm
  obtain ⟨b, l, d, rfl, hl, hd, h1, h2, rfl⟩ := hp
  obtain ⟨b', l', d', rfl, hl', hd', h1', h2', rfl⟩ := hq
  generalize rv b l d = r at *
  generalize rv b' l' d' = s at *
  generalize r * s = t at *
  refine Ev.call rfl tab42 ?_
  simp -implicitDefEqProofs (disch := omega) only [F42, go_sem, ↓reduceIte, reduceCtorEq, Nat.reduceAdd, Nat.reduceSub, Nat.reduceEqDiff, Nat.reduceLeDiff, Nat.reduceBEq]
  (refine Ev.bind (n1) ?_; simp -implicitDefEqProofs (disch := omega) only [go_sem, ↓reduceIte, reduceCtorEq, Nat.reduceAdd, Nat.reduceSub, Nat.reduceEqDiff, Nat.reduceLeDiff, Nat.reduceBEq]; refine Ev.bind (n2) ?_; simp -implicitDefEqProofs (disch := omega) only [go_sem, ↓reduceIte, reduceCtorEq, Nat.reduceAdd, Nat.reduceSub, Nat.reduceEqDiff, Nat.reduceLeDiff, Nat.reduceBEq]; refine Ev.bind (m1) ?_; simp -implicitDefEqProofs (disch := omega) only [go_sem, ↓reduceIte, reduceCtorEq, Nat.reduceAdd, Nat.reduceSub, Nat.reduceEqDiff, Nat.reduceLeDiff, Nat.reduceBEq]; refine Ev.bind (dm) ?_; simp -implicitDefEqProofs (disch := omega) only [go_sem, ↓reduceIte, reduceCtorEq, Nat.reduceAdd, Nat.reduceSub, Nat.reduceEqDiff, Nat.reduceLeDiff, Nat.reduceBEq]; refine Ev.bind (qq) ?_; simp -implicitDefEqProofs (disch := omega) only [go_sem, ↓reduceIte, reduceCtorEq, Nat.reduceAdd, Nat.reduceSub, Nat.reduceEqDiff, Nat.reduceLeDiff, Nat.reduceBEq])
  exact Ev.ret _
theorem div_rv (r s : Rat) : rv (decide (¬ sgnB r.num = sgnB s.num)) (ofN (r.num.natAbs * s.den)) (ofN (r.den * s.num.natAbs)) = r / s := by
  rw [Rat.div_def, inv_mk]
  have e : mkRat (iv (sgnB r.num) (ofN r.num.natAbs)) r.den = r := by unfold sgnB; rw [iv_ofN, Rat.mkRat_self]
  unfold rv
  rw [iv_times, val_ofN]
  rw [← Rat.mkRat_mul_mkRat, e, iv_norm (sgnB s.num) s.den]
  congr 2
  unfold sgnB
  by_cases h : s.num < 0
  · rw [decide_eq_true h, if_pos rfl, if_pos h]
  · rw [decide_eq_false h, if_neg (by decide), if_neg h]
theorem wdiv_ev {p q : PV} {r s : Rat} (hp : IsQ p r) (hq : IsQ q s) (hs : s ≠ 0) : Ev (fun k => (lvl tab ext k).call 34 [.pv p, .pv q]) [.pv (ofQ (r / s)), (.pv (.bool (true)))] := by
  have z := wzero_ev hq
  rw [decide_eq_false hs] at z
  have n1 := wnorm_ev hp
  have n2 := wnorm_ev hq
  have q1 : (absL r.num).length ≤ 100000 := hp.qz.1
  have q2 : (absL s.num).length ≤ 100000 := hq.qz.1
  have q3 : (denL r).length ≤ 100000 := hp.qz.2
  have q4 : (denL s).length ≤ 100000 := hq.qz.2
  have m1 := rmul_ev (lim_abs r.num) (lim_den s) (by omega)
  rw [val_abs, val_den] at m1
  have m2 := rmul_ev (lim_den r) (lim_abs s.num) (by omega)
  rw [val_abs, val_den] at m2
  have lm1 : (ofN (r.num.natAbs * s.den)).length ≤ 200000 := Nat.le_trans (len_mul _ _) (Nat.add_le_add hp.qz.1 hq.qz.2)
  have lm2 : (ofN (r.den * s.num.natAbs)).length ≤ 200000 := Nat.le_trans (len_mul _ _) (Nat.add_le_add hp.qz.2 hq.qz.1)
  have hne : s.num ≠ 0 := fun e => hs (Rat.num_eq_zero.1 e)
  have qq := reduce_ev (b := decide (¬ sgnB r.num = sgnB s.num)) (lim_ofN (r.num.natAbs * s.den)) (lim_ofN (r.den * s.num.natAbs)) (by omega) (by omega) (by rw [val_ofN]; have := Nat.mul_pos r.den_pos (show 0 < s.num.natAbs by omega); omega)
  rw [div_rv] at qq
  clear hne hs
  obtain ⟨b, l, d, rfl, hl, hd, h1, h2, rfl⟩ := hp
  obtain ⟨b', l', d', rfl, hl', hd', h1', h2', rfl⟩ := hq
  generalize rv b l d = r at *
  generalize rv b' l' d' = s at *
  generalize r / s = t at *
  refine Ev.call rfl tab34 ?_
  simp -implicitDefEqProofs (disch := omega) only [F34, go_sem, ↓reduceIte, reduceCtorEq, Nat.reduceAdd, Nat.reduceSub, Nat.reduceEqDiff, Nat.reduceLeDiff, Nat.reduceBEq]
  (refine Ev.bind (z) ?_; simp -implicitDefEqProofs (disch := omega) only [go_sem, ↓reduceIte, reduceCtorEq, Nat.reduceAdd, Nat.reduceSub, Nat.reduceEqDiff, Nat.reduceLeDiff, Nat.reduceBEq]; refine Ev.bind (n1) ?_; simp -implicitDefEqProofs (disch := omega) only [go_sem, ↓reduceIte, reduceCtorEq, Nat.reduceAdd, Nat.reduceSub, Nat.reduceEqDiff, Nat.reduceLeDiff, Nat.reduceBEq]; refine Ev.bind (n2) ?_; simp -implicitDefEqProofs (disch := omega) only [go_sem, ↓reduceIte, reduceCtorEq, Nat.reduceAdd, Nat.reduceSub, Nat.reduceEqDiff, Nat.reduceLeDiff, Nat.reduceBEq]; refine Ev.bind (m1) ?_; simp -implicitDefEqProofs (disch := omega) only [go_sem, ↓reduceIte, reduceCtorEq, Nat.reduceAdd, Nat.reduceSub, Nat.reduceEqDiff, Nat.reduceLeDiff, Nat.reduceBEq]; refine Ev.bind (m2) ?_; simp -implicitDefEqProofs (disch := omega) only [go_sem, ↓reduceIte, reduceCtorEq, Nat.reduceAdd, Nat.reduceSub, Nat.reduceEqDiff, Nat.reduceLeDiff, Nat.reduceBEq]; refine Ev.bind (qq) ?_; simp -implicitDefEqProofs (disch := omega) only [go_sem, ↓reduceIte, reduceCtorEq, Nat.reduceAdd, Nat.reduceSub, Nat.reduceEqDiff, Nat.reduceLeDiff, Nat.reduceBEq])
  exact Ev.ret _
theorem wdiv0_ev {p q : PV} {r : Rat} (hp : IsQ p r) (hq : IsQ q 0) : Ev (fun k => (lvl tab ext k).call 34 [.pv p, .pv q]) [.pv zeroQ, (.pv (.bool (false)))] := by
  have z := wzero_ev hq
  rw [decide_eq_true rfl] at z
  obtain ⟨b, l, d, rfl, hl, hd, h1, h2, rfl⟩ := hp
  obtain ⟨b', l', d', rfl, hl', hd', h1', h2', h0⟩ := hq
  refine Ev.call rfl tab34 ?_
  simp -implicitDefEqProofs (disch := omega) only [F34, go_sem, ↓reduceIte, reduceCtorEq, Nat.reduceAdd, Nat.reduceSub, Nat.reduceEqDiff, Nat.reduceLeDiff, Nat.reduceBEq]
  (refine Ev.bind (z) ?_; simp -implicitDefEqProofs (disch := omega) only [go_sem, ↓reduceIte, reduceCtorEq, Nat.reduceAdd, Nat.reduceSub, Nat.reduceEqDiff, Nat.reduceLeDiff, Nat.reduceBEq])
  exact Ev.ret _
end Go.Proofs.Ytpllmgmcfojmoaa.V
set_option linter.unusedSimpArgs false
set_option linter.unusedVariables false
namespace Go.Proofs.Ytpllmgmcfojmoaa.V
open Go Go.Proofs.Ytpllmgmcfojmoaa.M
theorem wfloor_ev {p : PV} {r : Rat} (hp : IsQ p r) : Ev (fun k => (lvl tab ext k).call 19 [.pv p]) [.pv (ofZ r.floor)] := by
  have n1 := wnorm_ev hp
  have dm := ydivmod_ev (isZ_of hp.qz6.1) (jsZ_den hp.qz6) (by have := r.den_pos; omega) hp.qz6.1 hp.qz6.2
  rw [← Rat.floor_def] at dm
  obtain ⟨b, l, d, rfl, hl, hd, h1, h2, rfl⟩ := hp
  generalize rv b l d = r at *
  generalize r.floor = f at *
  generalize r.num % (r.den : Int) = m at *
  refine Ev.call rfl tab19 ?_
  simp -implicitDefEqProofs (disch := omega) only [F19, go_sem, ↓reduceIte, reduceCtorEq, Nat.reduceAdd, Nat.reduceSub, Nat.reduceEqDiff, Nat.reduceLeDiff, Nat.reduceBEq]
  (refine Ev.bind (n1) ?_; simp -implicitDefEqProofs (disch := omega) only [go_sem, ↓reduceIte, reduceCtorEq, Nat.reduceAdd, Nat.reduceSub, Nat.reduceEqDiff, Nat.reduceLeDiff, Nat.reduceBEq]; refine Ev.bind (dm) ?_; simp -implicitDefEqProofs (disch := omega) only [go_sem, ↓reduceIte, reduceCtorEq, Nat.reduceAdd, Nat.reduceSub, Nat.reduceEqDiff, Nat.reduceLeDiff, Nat.reduceBEq])
  exact Ev.ret _
theorem rtwo_ev : Ev (fun k => (lvl tab ext k).call 58 [(.pv (.int .u64 (2)))]) [(.own (.ints .u32 (ofN 2)))] := rof_ev (a := 2) (by decide) (by decide)
theorem wround_ev {p : PV} {r : Rat} (hp : IsQ p r) : Ev (fun k => (lvl tab ext k).call 21 [.pv p]) [.pv (ofZ (rround r))] := by
  have n1 := wnorm_ev hp
  have q1 : (absL r.num).length ≤ 100000 := hp.qz.1
  have q2 : (denL r).length ≤ 100000 := hp.qz.2
  have l2 := len_small (n := 2) (by decide)
  have m1 := rmul_ev (lim_ofN 2) (lim_abs r.num) (by omega)
  rw [val_abs, val_ofN] at m1
  have lm1 : (ofN (2 * r.num.natAbs)).length ≤ 100001 := by
    have := len_mul 2 r.num.natAbs
    have : (ofN r.num.natAbs).length ≤ 100000 := hp.qz.1
    omega
  have a := radd_ev (lim_ofN (2 * r.num.natAbs)) (lim_den r) (by omega) (by omega)
  rw [val_ofN, val_den] at a
  have la : (ofN (2 * r.num.natAbs + r.den)).length ≤ 100002 := by
    have := len_add (2 * r.num.natAbs) r.den
    have : (ofN r.den).length ≤ 100000 := hp.qz.2
    omega
  have m2 := rmul_ev (lim_ofN 2) (lim_den r) (by omega)
  rw [val_den, val_ofN] at m2
  have lm2 : (ofN (2 * r.den)).length ≤ 100001 := by
    have := len_mul 2 r.den
    have : (ofN r.den).length ≤ 100000 := hp.qz.2
    omega
  have hpos := r.den_pos
  have d := rdivmod_ev (lim_ofN (2 * r.num.natAbs + r.den)) (lim_ofN (2 * r.den)) (by omega) (by omega) (by rw [val_ofN]; omega)
  rw [val_ofN, val_ofN] at d
  have lq := len_mono (Nat.div_le_self (2 * r.num.natAbs + r.den) (2 * r.den))
  have nn := ynorm_ev (isZ_mk (b := sgnB r.num) (lim_ofN ((2 * r.num.natAbs + r.den) / (2 * r.den))) (by omega))
  have er : iv (sgnB r.num) (ofN ((2 * r.num.natAbs + r.den) / (2 * r.den))) = rround r := by
    unfold rround sgnB
    rw [iv_norm]
    by_cases h : r.num < 0
    · rw [decide_eq_true h, if_pos rfl, if_pos h]
    · rw [decide_eq_false h, if_neg (by decide), if_neg h]
  rw [er] at nn
  obtain ⟨b, l, dd, rfl, hl, hd, h1, h2, rfl⟩ := hp
  generalize rv b l dd = r at *
  generalize rround r = R at *
  generalize (2 * r.num.natAbs + r.den) / (2 * r.den) = Q at *
  generalize (2 * r.num.natAbs + r.den) % (2 * r.den) = Q2 at *
  generalize 2 * r.num.natAbs + r.den = A at *
  generalize 2 * r.num.natAbs = B at *
  generalize 2 * r.den = C at *
  refine Ev.call rfl tab21 ?_
  simp -implicitDefEqProofs (disch := omega) only [F21, go_sem, ↓reduceIte, reduceCtorEq, Nat.reduceAdd, Nat.reduceSub, Nat.reduceEqDiff, Nat.reduceLeDiff, Nat.reduceBEq]
  (refine Ev.bind (n1) ?_; simp -implicitDefEqProofs (disch := omega) only [go_sem, ↓reduceIte, reduceCtorEq, Nat.reduceAdd, Nat.reduceSub, Nat.reduceEqDiff, Nat.reduceLeDiff, Nat.reduceBEq]; refine Ev.bind (rtwo_ev) ?_; simp -implicitDefEqProofs (disch := omega) only [go_sem, ↓reduceIte, reduceCtorEq, Nat.reduceAdd, Nat.reduceSub, Nat.reduceEqDiff, Nat.reduceLeDiff, Nat.reduceBEq]; refine Ev.bind (m1) ?_; simp -implicitDefEqProofs (disch := omega) only [go_sem, ↓reduceIte, reduceCtorEq, Nat.reduceAdd, Nat.reduceSub, Nat.reduceEqDiff, Nat.reduceLeDiff, Nat.reduceBEq]; refine Ev.bind (a) ?_; simp -implicitDefEqProofs (disch := omega) only [go_sem, ↓reduceIte, reduceCtorEq, Nat.reduceAdd, Nat.reduceSub, Nat.reduceEqDiff, Nat.reduceLeDiff, Nat.reduceBEq]; refine Ev.bind (m2) ?_; simp -implicitDefEqProofs (disch := omega) only [go_sem, ↓reduceIte, reduceCtorEq, Nat.reduceAdd, Nat.reduceSub, Nat.reduceEqDiff, Nat.reduceLeDiff, Nat.reduceBEq]; refine Ev.bind (d) ?_; simp -implicitDefEqProofs (disch := omega) only [go_sem, ↓reduceIte, reduceCtorEq, Nat.reduceAdd, Nat.reduceSub, Nat.reduceEqDiff, Nat.reduceLeDiff, Nat.reduceBEq]; refine Ev.bind (nn) ?_; simp -implicitDefEqProofs (disch := omega) only [go_sem, ↓reduceIte, reduceCtorEq, Nat.reduceAdd, Nat.reduceSub, Nat.reduceEqDiff, Nat.reduceLeDiff, Nat.reduceBEq])
  exact Ev.ret _
theorem lim_one : Lim [1] := by rw [← one_ofN]; exact lim_ofN 1
theorem val_one : val [1] = 1 := by rw [← one_ofN, val_ofN]
theorem rcmp1_ev {n : Nat} (hn : (ofN n).length ≤ 1000000) : Ev (fun k => (lvl tab ext k).call 66 [(.pv (.ints .u32 (ofN n))), (.pv (.ints .u32 ([1])))]) [(.pv (.int .i64 (cmp n 1)))] := by
  have := rcmp_ev (lim_ofN n) lim_one (by omega) (by decide)
  rwa [val_ofN, val_one] at this
theorem wtext_ev {p : PV} {r : Rat} (hp : IsQ p r) : Ev (fun k => (lvl tab ext k).call 23 [.pv p]) [(.pv (.str (textQ r)))] := by
  have n1 := wnorm_ev hp
  have q1 : (ofN r.num.natAbs).length ≤ 100000 := hp.qz.1
  have q2 : (denL r).length ≤ 100000 := hp.qz.2
  have t1 := ytext_ev (isZ_of hp.qz6.1) hp.qz6.1
  have c1 : Ev (fun k => (lvl tab ext k).call 66 [(.pv (.ints .u32 (denL r))), (.pv (.ints .u32 ([1])))]) [(.pv (.int .i64 (cmp r.den 1)))] := rcmp1_ev hp.qz6.2
  have t2 := rtext_ev (lim_den r) (by omega)
  rw [val_den] at t2
  have l1 : (textZ r.num).length ≤ 32 * (ofN r.num.natAbs).length + 2 := by
    unfold textZ
    have := textN_len r.num.natAbs
    split
    · rw [List.length_cons]; omega
    · omega
  have l2 : (textN r.den).length ≤ 32 * (denL r).length + 1 := textN_len r.den
  unfold textQ
  obtain ⟨b, l, dd, rfl, hl, hd, h1, h2, rfl⟩ := hp
  generalize rv b l dd = r at *
  generalize textZ r.num = T1 at *
  generalize textN r.den = T2 at *
  by_cases h : r.den = 1
  · rw [if_pos h]
    rw [h, cmp_eq] at c1
    refine Ev.call rfl tab23 ?_
    simp -implicitDefEqProofs (disch := omega) only [F23, go_sem, ↓reduceIte, reduceCtorEq, Nat.reduceAdd, Nat.reduceSub, Nat.reduceEqDiff, Nat.reduceLeDiff, Nat.reduceBEq]
    (refine Ev.bind (n1) ?_; simp -implicitDefEqProofs (disch := omega) only [go_sem, ↓reduceIte, reduceCtorEq, Nat.reduceAdd, Nat.reduceSub, Nat.reduceEqDiff, Nat.reduceLeDiff, Nat.reduceBEq]; refine Ev.bind (rone_ev) ?_; simp -implicitDefEqProofs (disch := omega) only [go_sem, ↓reduceIte, reduceCtorEq, Nat.reduceAdd, Nat.reduceSub, Nat.reduceEqDiff, Nat.reduceLeDiff, Nat.reduceBEq]; refine Ev.bind (c1) ?_; simp -implicitDefEqProofs (disch := omega) only [go_sem, ↓reduceIte, reduceCtorEq, Nat.reduceAdd, Nat.reduceSub, Nat.reduceEqDiff, Nat.reduceLeDiff, Nat.reduceBEq]; refine Ev.bind (t1) ?_; simp -implicitDefEqProofs (disch := omega) only [go_sem, ↓reduceIte, reduceCtorEq, Nat.reduceAdd, Nat.reduceSub, Nat.reduceEqDiff, Nat.reduceLeDiff, Nat.reduceBEq])
    exact Ev.ret _
  · rw [if_neg h, show T1 ++ 47 :: T2 = T1 ++ [47] ++ T2 by simp]
    have hc : cmp r.den 1 ≠ 0 := fun e => h (cmp_zero.1 e)
    generalize cmp r.den 1 = c at *
    refine Ev.call rfl tab23 ?_
    simp -implicitDefEqProofs (disch := omega) only [F23, go_sem, ↓reduceIte, reduceCtorEq, Nat.reduceAdd, Nat.reduceSub, Nat.reduceEqDiff, Nat.reduceLeDiff, Nat.reduceBEq]
    (refine Ev.bind (n1) ?_; simp -implicitDefEqProofs (disch := omega) only [go_sem, ↓reduceIte, reduceCtorEq, Nat.reduceAdd, Nat.reduceSub, Nat.reduceEqDiff, Nat.reduceLeDiff, Nat.reduceBEq]; refine Ev.bind (rone_ev) ?_; simp -implicitDefEqProofs (disch := omega) only [go_sem, ↓reduceIte, reduceCtorEq, Nat.reduceAdd, Nat.reduceSub, Nat.reduceEqDiff, Nat.reduceLeDiff, Nat.reduceBEq]; refine Ev.bind (c1) ?_; simp -implicitDefEqProofs (disch := omega) only [go_sem, ↓reduceIte, reduceCtorEq, Nat.reduceAdd, Nat.reduceSub, Nat.reduceEqDiff, Nat.reduceLeDiff, Nat.reduceBEq]; refine Ev.bind (t1) ?_; simp -implicitDefEqProofs (disch := omega) only [go_sem, ↓reduceIte, reduceCtorEq, Nat.reduceAdd, Nat.reduceSub, Nat.reduceEqDiff, Nat.reduceLeDiff, Nat.reduceBEq])
    refine Ev.bind t2 ?_
    simp -implicitDefEqProofs (disch := omega) only [List.length_append, List.length_cons, List.length_nil, go_sem, ↓reduceIte, reduceCtorEq, Nat.reduceAdd, Nat.reduceSub, Nat.reduceEqDiff, Nat.reduceLeDiff, Nat.reduceBEq]
    exact Ev.ret _
theorem slash_loop {s : List UInt8} (hs : s.length ≤ 1000000) : ∀ d i, d + i = cutN s → ∀ n : Int, n = i →
    (cutN s < s.length → Ev (fun k => run (lvl tab ext k) F72C0 F72L0 ⟨mk [(0, (.pv (.str (s)))), (3, (.pv (.int .i64 (n))))], hp []⟩) (.ret, ⟨mk [(2, (.pv (.int .i64 ((cutN s : Int)))))], hp []⟩)) ∧
    (cutN s = s.length → Ev (fun k => run (lvl tab ext k) F72C0 F72L0 ⟨mk [(0, (.pv (.str (s)))), (3, (.pv (.int .i64 (n))))], hp []⟩) (.exit 0, ⟨mk [(0, (.pv (.str (s)))), (3, (.pv (.int .i64 ((s.length : Int))))), (7, (.pv (.bool (false))))], hp []⟩)) := by
  intro d
  induction d with
  | zero =>
    intro i hd n hn
    subst hn
    refine ⟨fun h => ?_, fun h => ?_⟩
    · have hb := cutN_at s h
      have eb : ((s.getD (cutN s) 0).toNat : Int) = bt s (cutN s) := rfl
      rw [hb] at eb
      have : i = cutN s := by omega
      subst this
      generalize cutN s = c at *
      refine Ev.body (by unfold F72L0; rfl) ?_
      simp -implicitDefEqProofs (disch := omega) only [eb, go_sem, ↓reduceIte, reduceCtorEq, Nat.reduceAdd, Nat.reduceSub, Nat.reduceEqDiff, Nat.reduceLeDiff, Nat.reduceBEq]
      exact Ev.ret _
    · have : i = s.length := by omega
      subst this
      clear h hd
      refine Ev.body (by unfold F72L0; rfl) ?_
      simp -implicitDefEqProofs (disch := omega) only [go_sem, ↓reduceIte, reduceCtorEq, Nat.reduceAdd, Nat.reduceSub, Nat.reduceEqDiff, Nat.reduceLeDiff, Nat.reduceBEq]
      exact Ev.ret _
  | succ d ih =>
    intro i hd n hn
    subst hn
    have hle := cutN_le s
    have hb := cutN_before s i (by omega)
    have eb : ((s.getD i 0).toNat : Int) = bt s i := rfl
    have ih := ih (i + 1) (by omega) ((i : Int) + 1) (by omega)
    generalize bt s i = b at *
    refine ⟨fun h => ?_, fun h => ?_⟩
    · have r := ih.1 h
      clear ih
      refine Ev.body (by unfold F72L0; rfl) ?_
      simp -implicitDefEqProofs (disch := omega) only [eb, go_sem, ↓reduceIte, reduceCtorEq, Nat.reduceAdd, Nat.reduceSub, Nat.reduceEqDiff, Nat.reduceLeDiff, Nat.reduceBEq]
      exact Ev.lp (by simp -implicitDefEqProofs (disch := omega) only [F72C0, go_sem, ↓reduceIte, reduceCtorEq, Nat.reduceAdd, Nat.reduceSub, Nat.reduceEqDiff, Nat.reduceLeDiff, Nat.reduceBEq]) r
    · have r := ih.2 h
      clear ih
      refine Ev.body (by unfold F72L0; rfl) ?_
      simp -implicitDefEqProofs (disch := omega) only [eb, go_sem, ↓reduceIte, reduceCtorEq, Nat.reduceAdd, Nat.reduceSub, Nat.reduceEqDiff, Nat.reduceLeDiff, Nat.reduceBEq]
      exact Ev.lp (by simp -implicitDefEqProofs (disch := omega) only [F72C0, go_sem, ↓reduceIte, reduceCtorEq, Nat.reduceAdd, Nat.reduceSub, Nat.reduceEqDiff, Nat.reduceLeDiff, Nat.reduceBEq]) r
theorem slash_ev (s : List UInt8) (hs : s.length ≤ 1000000) : Ev (fun k => (lvl tab ext k).call 72 [(.pv (.str (s)))]) [(.pv (.int .i64 ((cutN s : Int))))] := by
  have r := slash_loop hs (cutN s) 0 (by omega) 0 rfl
  have hle := cutN_le s
  by_cases h : cutN s < s.length
  · have r := r.1 h
    refine Ev.call rfl tab72 ?_
    simp -implicitDefEqProofs (disch := omega) only [F72, go_sem, ↓reduceIte, reduceCtorEq, Nat.reduceAdd, Nat.reduceSub, Nat.reduceEqDiff, Nat.reduceLeDiff, Nat.reduceBEq]
    refine Ev.bind (Ev.lp (by simp -implicitDefEqProofs (disch := omega) only [F72C0, go_sem, ↓reduceIte, reduceCtorEq, Nat.reduceAdd, Nat.reduceSub, Nat.reduceEqDiff, Nat.reduceLeDiff, Nat.reduceBEq]) r) ?_
    simp -implicitDefEqProofs (disch := omega) only [go_sem, ↓reduceIte, reduceCtorEq, Nat.reduceAdd, Nat.reduceSub, Nat.reduceEqDiff, Nat.reduceLeDiff, Nat.reduceBEq]
    exact Ev.ret _
  · have e : cutN s = s.length := by omega
    have r := r.2 e
    rw [e]
    refine Ev.call rfl tab72 ?_
    simp -implicitDefEqProofs (disch := omega) only [F72, go_sem, ↓reduceIte, reduceCtorEq, Nat.reduceAdd, Nat.reduceSub, Nat.reduceEqDiff, Nat.reduceLeDiff, Nat.reduceBEq]
    refine Ev.bind (Ev.lp (by simp -implicitDefEqProofs (disch := omega) only [F72C0, go_sem, ↓reduceIte, reduceCtorEq, Nat.reduceAdd, Nat.reduceSub, Nat.reduceEqDiff, Nat.reduceLeDiff, Nat.reduceBEq]) r) ?_
    simp -implicitDefEqProofs (disch := omega) only [go_sem, ↓reduceIte, reduceCtorEq, Nat.reduceAdd, Nat.reduceSub, Nat.reduceEqDiff, Nat.reduceLeDiff, Nat.reduceBEq]
    exact Ev.ret _
theorem limbs_loop {l : List Int} (hs : l.length ≤ 1000000000) : ∀ d i, d + i = l.length → ∀ n : Int, n = i →
    Ev (fun k => run (lvl tab ext k) F49C0 F49L0 ⟨mk [(0, (.pv (.ints .u32 (l)))), (1, (.pv (.ints .u32 (l)))), (5, (.pv (.int .i64 (n))))], hp []⟩) (.exit 0, ⟨mk [(0, (.pv (.ints .u32 (l)))), (1, (.pv (.ints .u32 (l)))), (5, (.pv (.int .i64 ((l.length : Int))))), (14, (.pv (.bool (false))))], hp []⟩) := by
  intro d
  induction d with
  | zero =>
    intro i hd n hn
    have : i = l.length := by omega
    subst this
    subst hn
    refine Ev.body (by unfold F49L0; rfl) ?_
    simp -implicitDefEqProofs (disch := omega) only [go_sem, ↓reduceIte, reduceCtorEq, Nat.reduceAdd, Nat.reduceSub, Nat.reduceEqDiff, Nat.reduceLeDiff, Nat.reduceBEq]
    exact Ev.ret _
  | succ d ih =>
    intro i hd n hn
    subst hn
    have r := ih (i + 1) (by omega) ((i : Int) + 1) (by omega)
    clear ih
    refine Ev.body (by unfold F49L0; rfl) ?_
    simp -implicitDefEqProofs (disch := omega) only [go_sem, ↓reduceIte, reduceCtorEq, Nat.reduceAdd, Nat.reduceSub, Nat.reduceEqDiff, Nat.reduceLeDiff, Nat.reduceBEq]
    exact Ev.lp (by simp -implicitDefEqProofs (disch := omega) only [F49C0, go_sem, ↓reduceIte, reduceCtorEq, Nat.reduceAdd, Nat.reduceSub, Nat.reduceEqDiff, Nat.reduceLeDiff, Nat.reduceBEq]) r
theorem limbs_ev {l : List Int} (hs : l.length ≤ 1000000000) : Ev (fun k => (lvl tab ext k).call 49 [(.pv (.ints .u32 (l))), (.pv (.ints .u32 (l)))]) [(.pv (.bool (true)))] := by
  have r := limbs_loop hs l.length 0 (by omega) 0 rfl
  refine Ev.call rfl tab49 ?_
  simp -implicitDefEqProofs (disch := omega) only [F49, go_sem, ↓reduceIte, reduceCtorEq, Nat.reduceAdd, Nat.reduceSub, Nat.reduceEqDiff, Nat.reduceLeDiff, Nat.reduceBEq]
  refine Ev.bind (Ev.lp (by simp -implicitDefEqProofs (disch := omega) only [F49C0, go_sem, ↓reduceIte, reduceCtorEq, Nat.reduceAdd, Nat.reduceSub, Nat.reduceEqDiff, Nat.reduceLeDiff, Nat.reduceBEq]) r) ?_
  simp -implicitDefEqProofs (disch := omega) only [go_sem, ↓reduceIte, reduceCtorEq, Nat.reduceAdd, Nat.reduceSub, Nat.reduceEqDiff, Nat.reduceLeDiff, Nat.reduceBEq]
  exact Ev.ret _
theorem sameInt_ev {b : Bool} {l : List Int} (hs : l.length ≤ 1000000000) : Ev (fun k => (lvl tab ext k).call 17 [.pv (.agg [.bool b, .ints .u32 l]), .pv (.agg [.bool b, .ints .u32 l])]) [(.pv (.bool (true)))] := by
  refine Ev.call rfl tab17 ?_
  simp -implicitDefEqProofs (disch := omega) only [F17, go_sem, ↓reduceIte, reduceCtorEq, Nat.reduceAdd, Nat.reduceSub, Nat.reduceEqDiff, Nat.reduceLeDiff, Nat.reduceBEq]
  refine Ev.bind (limbs_ev hs) ?_
  simp -implicitDefEqProofs (disch := omega) only [go_sem, ↓reduceIte, reduceCtorEq, Nat.reduceAdd, Nat.reduceSub, Nat.reduceEqDiff, Nat.reduceLeDiff, Nat.reduceBEq]
  exact Ev.ret _
theorem wsameInt_ev {z : Int} (h : Sz 1000000 z) : Ev (fun k => (lvl tab ext k).call 17 [.pv (ofZ z), .pv (ofZ z)]) [(.pv (.bool (true)))] := sameInt_ev (Nat.le_trans h (by decide))
theorem same3_ev {b : Bool} {l d : List Int} (hs : l.length ≤ 1000000000) (hd : d.length ≤ 1000000000) : Ev (fun k => (lvl tab ext k).call 14 [.pv (.agg [.bool b, .ints .u32 l, .ints .u32 d]), .pv (.agg [.bool b, .ints .u32 l, .ints .u32 d])]) [(.pv (.bool (true)))] := by
  refine Ev.call rfl tab14 ?_
  simp -implicitDefEqProofs (disch := omega) only [F14, go_sem, ↓reduceIte, reduceCtorEq, Nat.reduceAdd, Nat.reduceSub, Nat.reduceEqDiff, Nat.reduceLeDiff, Nat.reduceBEq]
  refine Ev.bind (sameInt_ev hs) ?_
  simp -implicitDefEqProofs (disch := omega) only [go_sem, ↓reduceIte, reduceCtorEq, Nat.reduceAdd, Nat.reduceSub, Nat.reduceEqDiff, Nat.reduceLeDiff, Nat.reduceBEq]
  refine Ev.bind (limbs_ev hd) ?_
  simp -implicitDefEqProofs (disch := omega) only [go_sem, ↓reduceIte, reduceCtorEq, Nat.reduceAdd, Nat.reduceSub, Nat.reduceEqDiff, Nat.reduceLeDiff, Nat.reduceBEq]
  exact Ev.ret _
theorem wsame_ev {r : Rat} (h : Qz 1000000 r) : Ev (fun k => (lvl tab ext k).call 14 [.pv (ofQ r), .pv (ofQ r)]) [(.pv (.bool (true)))] := same3_ev (Nat.le_trans h.1 (by decide)) (Nat.le_trans h.2 (by decide))
theorem wsame0_ev : Ev (fun k => (lvl tab ext k).call 14 [.pv zeroQ, .pv zeroQ]) [(.pv (.bool (true)))] := same3_ev (by decide) (by decide)
theorem wlight_ev {b : Bool} {l d : List Int} {n : Int} : Ev (fun k => (lvl tab ext k).call 16 [.pv (.agg [.bool b, .ints .u32 l, .ints .u32 d]), (.pv (.int .i64 (n)))]) [(.pv (.bool (decide ((l.length : Int) ≤ n ∧ (d.length : Int) ≤ n))))] := by
  by_cases h1 : (l.length : Int) ≤ n
  · by_cases h2 : (d.length : Int) ≤ n
    · rw [decide_eq_true ⟨h1, h2⟩]
      refine Ev.call rfl tab16 ?_
      simp -implicitDefEqProofs (disch := omega) only [F16, go_sem, ↓reduceIte, reduceCtorEq, Nat.reduceAdd, Nat.reduceSub, Nat.reduceEqDiff, Nat.reduceLeDiff, Nat.reduceBEq]
      exact Ev.ret _
    · rw [decide_eq_false (fun h => h2 h.2)]
      refine Ev.call rfl tab16 ?_
      simp -implicitDefEqProofs (disch := omega) only [F16, go_sem, ↓reduceIte, reduceCtorEq, Nat.reduceAdd, Nat.reduceSub, Nat.reduceEqDiff, Nat.reduceLeDiff, Nat.reduceBEq]
      exact Ev.ret _
  · rw [decide_eq_false (fun h => h1 h.1)]
    refine Ev.call rfl tab16 ?_
    simp -implicitDefEqProofs (disch := omega) only [F16, go_sem, ↓reduceIte, reduceCtorEq, Nat.reduceAdd, Nat.reduceSub, Nat.reduceEqDiff, Nat.reduceLeDiff, Nat.reduceBEq]
    exact Ev.ret _
theorem cellsOne (z : Int) : PV.agg [.bool (sgnB z), .ints .u32 (absL z), .ints .u32 [1]] = ofQ (mkRat z 1) := by
  rw [ofQ_mk z (by decide), Nat.gcd_one_right, Nat.div_one, Nat.div_one, one_ofN]; rfl
theorem cellsMk {z : Int} {n : Nat} (h0 : n ≠ 0) (h1 : Nat.gcd z.natAbs n = 1) : PV.agg [.bool (sgnB z), .ints .u32 (absL z), .ints .u32 (ofN n)] = ofQ (mkRat z n) := by
  rw [ofQ_mk z h0, h1, Nat.div_one, Nat.div_one]; rfl
theorem wparse_ev (s : List UInt8) (hs : s.length ≤ 1000000) : Ev (fun k => (lvl tab ext k).call 25 [(.pv (.str (s)))]) [.pv (qP s), (.pv (.int .i64 (qE s)))] := by
  have hc := slash_ev s hs
  have hle := cutN_le s
  have lp : (preT s).length ≤ s.length := by unfold preT; rw [List.length_take]; omega
  have lq : (postT s).length ≤ s.length := by unfold postT; rw [List.length_drop]; omega
  have p1 := yparse_ev (preT s) (by omega)
  have p2 : Ev (fun k => (lvl tab ext k).call 74 [(.pv (.str (postT s)))]) [(.pv (.ints .u32 (ofN (nN (postT s))))), (.pv (.int .i64 (nE (postT s))))] := rparse_ev (postT s) (by omega)
  have e0 : s.drop 0 = s := rfl
  have e1 : s.take (cutN s) = preT s := rfl
  have e2 : (s.drop (cutN s + 1)).take (s.length - (cutN s + 1)) = postT s := List.take_of_length_le (by rw [List.length_drop]; omega)
  have e3 : ((cutN s : Int) + 1).toNat = cutN s + 1 := by omega
  have c1 : zE (preT s) = 0 ∨ zE (preT s) = 2 ∨ zE (preT s) = 5 := by unfold zE; split <;> (try split) <;> (try split) <;> omega
  have c2 : nE (postT s) = 0 ∨ nE (postT s) = 2 ∨ nE (postT s) = 5 := by unfold nE; split <;> (try split) <;> omega
  have s2 : (ofN (nN (postT s))).length ≤ 200 := rparseN_lt _
  have s1 : Sz 200 (zN (preT s)) := zN_len (preT s)
  unfold qP qE qN zeroQ
  generalize zE (preT s) = E1 at *
  generalize zN (preT s) = Z at *
  generalize nE (postT s) = E2 at *
  generalize nN (postT s) = M at *
  have sz1 : (absL Z).length ≤ 200 := s1
  by_cases h1 : E1 = 0
  · subst h1
    rw [if_pos rfl]
    by_cases h2 : cutN s < s.length
    · rw [if_pos h2, if_pos h2]
      by_cases h3 : E2 = 0
      · subst h3
        rw [if_pos rfl]
        have k1 := rcmp1_ev (n := M) (by omega)
        by_cases h4 : M ≤ 1
        · rw [if_pos (show M ≤ 1 ∨ Nat.gcd Z.natAbs M ≠ 1 from .inl h4), if_neg (show ¬ ((2 : Int) = 0) by decide)]
          have hk : cmp M 1 ≤ 0 := cmp_le.2 h4
          clear h4
          generalize cmp M 1 = k at *
          generalize preT s = A at *
          generalize postT s = B at *
          refine Ev.call rfl tab25 ?_
          simp -implicitDefEqProofs (disch := omega) only [F25, go_sem, ↓reduceIte, reduceCtorEq, Nat.reduceAdd, Nat.reduceSub, Nat.reduceEqDiff, Nat.reduceLeDiff, Nat.reduceBEq]
          refine Ev.bind hc ?_
          simp -implicitDefEqProofs (disch := omega) only [e0, e1, Nat.sub_zero, go_sem, ↓reduceIte, reduceCtorEq, Nat.reduceAdd, Nat.reduceSub, Nat.reduceEqDiff, Nat.reduceLeDiff, Nat.reduceBEq]
          refine Ev.bind p1 ?_
          simp -implicitDefEqProofs (disch := omega) only [e2, e3, go_sem, ↓reduceIte, reduceCtorEq, Nat.reduceAdd, Nat.reduceSub, Nat.reduceEqDiff, Nat.reduceLeDiff, Nat.reduceBEq]
          (refine Ev.bind (p2) ?_; simp -implicitDefEqProofs (disch := omega) only [go_sem, ↓reduceIte, reduceCtorEq, Nat.reduceAdd, Nat.reduceSub, Nat.reduceEqDiff, Nat.reduceLeDiff, Nat.reduceBEq]; refine Ev.bind (rone_ev) ?_; simp -implicitDefEqProofs (disch := omega) only [go_sem, ↓reduceIte, reduceCtorEq, Nat.reduceAdd, Nat.reduceSub, Nat.reduceEqDiff, Nat.reduceLeDiff, Nat.reduceBEq]; refine Ev.bind (k1) ?_; simp -implicitDefEqProofs (disch := omega) only [go_sem, ↓reduceIte, reduceCtorEq, Nat.reduceAdd, Nat.reduceSub, Nat.reduceEqDiff, Nat.reduceLeDiff, Nat.reduceBEq])
          exact Ev.ret _
        · have g := rgcd_ev (lim_abs Z) (lim_ofN M) (by omega) (by omega)
          rw [val_abs, val_ofN] at g
          have lg := len_mono (Nat.gcd_le_right Z.natAbs (show 0 < M by omega))
          have k2 := rcmp1_ev (n := Nat.gcd Z.natAbs M) (by omega)
          have hk : 0 < cmp M 1 := cmp_pos.2 (by omega)
          by_cases h6 : Nat.gcd Z.natAbs M = 1
          · rw [if_neg (show ¬ (M ≤ 1 ∨ Nat.gcd Z.natAbs M ≠ 1) by omega), if_pos rfl, ← cellsMk (by omega) h6]
            rw [h6, cmp_eq] at k2
            rw [h6] at g
            clear h6 h4 lg
            generalize cmp M 1 = k at *
            generalize preT s = A at *
            generalize postT s = B at *
            refine Ev.call rfl tab25 ?_
            simp -implicitDefEqProofs (disch := omega) only [F25, go_sem, ↓reduceIte, reduceCtorEq, Nat.reduceAdd, Nat.reduceSub, Nat.reduceEqDiff, Nat.reduceLeDiff, Nat.reduceBEq]
            refine Ev.bind hc ?_
            simp -implicitDefEqProofs (disch := omega) only [e0, e1, Nat.sub_zero, go_sem, ↓reduceIte, reduceCtorEq, Nat.reduceAdd, Nat.reduceSub, Nat.reduceEqDiff, Nat.reduceLeDiff, Nat.reduceBEq]
            refine Ev.bind p1 ?_
            simp -implicitDefEqProofs (disch := omega) only [e2, e3, go_sem, ↓reduceIte, reduceCtorEq, Nat.reduceAdd, Nat.reduceSub, Nat.reduceEqDiff, Nat.reduceLeDiff, Nat.reduceBEq]
            (refine Ev.bind (p2) ?_; simp -implicitDefEqProofs (disch := omega) only [go_sem, ↓reduceIte, reduceCtorEq, Nat.reduceAdd, Nat.reduceSub, Nat.reduceEqDiff, Nat.reduceLeDiff, Nat.reduceBEq]; refine Ev.bind (rone_ev) ?_; simp -implicitDefEqProofs (disch := omega) only [go_sem, ↓reduceIte, reduceCtorEq, Nat.reduceAdd, Nat.reduceSub, Nat.reduceEqDiff, Nat.reduceLeDiff, Nat.reduceBEq]; refine Ev.bind (k1) ?_; simp -implicitDefEqProofs (disch := omega) only [go_sem, ↓reduceIte, reduceCtorEq, Nat.reduceAdd, Nat.reduceSub, Nat.reduceEqDiff, Nat.reduceLeDiff, Nat.reduceBEq]; refine Ev.bind (g) ?_; simp -implicitDefEqProofs (disch := omega) only [go_sem, ↓reduceIte, reduceCtorEq, Nat.reduceAdd, Nat.reduceSub, Nat.reduceEqDiff, Nat.reduceLeDiff, Nat.reduceBEq]; refine Ev.bind (k2) ?_; simp -implicitDefEqProofs (disch := omega) only [go_sem, ↓reduceIte, reduceCtorEq, Nat.reduceAdd, Nat.reduceSub, Nat.reduceEqDiff, Nat.reduceLeDiff, Nat.reduceBEq])
            exact Ev.ret _
          · rw [if_pos (show M ≤ 1 ∨ Nat.gcd Z.natAbs M ≠ 1 from .inr h6), if_neg (show ¬ ((2 : Int) = 0) by decide)]
            have hk2 : cmp (Nat.gcd Z.natAbs M) 1 ≠ 0 := fun e => h6 (cmp_zero.1 e)
            clear h6 h4 lg
            generalize Nat.gcd Z.natAbs M = G at *
            generalize cmp M 1 = k at *
            generalize cmp G 1 = k' at *
            generalize preT s = A at *
            generalize postT s = B at *
            refine Ev.call rfl tab25 ?_
            simp -implicitDefEqProofs (disch := omega) only [F25, go_sem, ↓reduceIte, reduceCtorEq, Nat.reduceAdd, Nat.reduceSub, Nat.reduceEqDiff, Nat.reduceLeDiff, Nat.reduceBEq]
            refine Ev.bind hc ?_
            simp -implicitDefEqProofs (disch := omega) only [e0, e1, Nat.sub_zero, go_sem, ↓reduceIte, reduceCtorEq, Nat.reduceAdd, Nat.reduceSub, Nat.reduceEqDiff, Nat.reduceLeDiff, Nat.reduceBEq]
            refine Ev.bind p1 ?_
            simp -implicitDefEqProofs (disch := omega) only [e2, e3, go_sem, ↓reduceIte, reduceCtorEq, Nat.reduceAdd, Nat.reduceSub, Nat.reduceEqDiff, Nat.reduceLeDiff, Nat.reduceBEq]
            (refine Ev.bind (p2) ?_; simp -implicitDefEqProofs (disch := omega) only [go_sem, ↓reduceIte, reduceCtorEq, Nat.reduceAdd, Nat.reduceSub, Nat.reduceEqDiff, Nat.reduceLeDiff, Nat.reduceBEq]; refine Ev.bind (rone_ev) ?_; simp -implicitDefEqProofs (disch := omega) only [go_sem, ↓reduceIte, reduceCtorEq, Nat.reduceAdd, Nat.reduceSub, Nat.reduceEqDiff, Nat.reduceLeDiff, Nat.reduceBEq]; refine Ev.bind (k1) ?_; simp -implicitDefEqProofs (disch := omega) only [go_sem, ↓reduceIte, reduceCtorEq, Nat.reduceAdd, Nat.reduceSub, Nat.reduceEqDiff, Nat.reduceLeDiff, Nat.reduceBEq]; refine Ev.bind (g) ?_; simp -implicitDefEqProofs (disch := omega) only [go_sem, ↓reduceIte, reduceCtorEq, Nat.reduceAdd, Nat.reduceSub, Nat.reduceEqDiff, Nat.reduceLeDiff, Nat.reduceBEq]; refine Ev.bind (k2) ?_; simp -implicitDefEqProofs (disch := omega) only [go_sem, ↓reduceIte, reduceCtorEq, Nat.reduceAdd, Nat.reduceSub, Nat.reduceEqDiff, Nat.reduceLeDiff, Nat.reduceBEq])
            exact Ev.ret _
      · rw [if_neg h3, if_neg h3]
        generalize preT s = A at *
        generalize postT s = B at *
        refine Ev.call rfl tab25 ?_
        simp -implicitDefEqProofs (disch := omega) only [F25, go_sem, ↓reduceIte, reduceCtorEq, Nat.reduceAdd, Nat.reduceSub, Nat.reduceEqDiff, Nat.reduceLeDiff, Nat.reduceBEq]
        refine Ev.bind hc ?_
        simp -implicitDefEqProofs (disch := omega) only [e0, e1, Nat.sub_zero, go_sem, ↓reduceIte, reduceCtorEq, Nat.reduceAdd, Nat.reduceSub, Nat.reduceEqDiff, Nat.reduceLeDiff, Nat.reduceBEq]
        refine Ev.bind p1 ?_
        simp -implicitDefEqProofs (disch := omega) only [e2, e3, go_sem, ↓reduceIte, reduceCtorEq, Nat.reduceAdd, Nat.reduceSub, Nat.reduceEqDiff, Nat.reduceLeDiff, Nat.reduceBEq]
        (refine Ev.bind (p2) ?_; simp -implicitDefEqProofs (disch := omega) only [go_sem, ↓reduceIte, reduceCtorEq, Nat.reduceAdd, Nat.reduceSub, Nat.reduceEqDiff, Nat.reduceLeDiff, Nat.reduceBEq])
        exact Ev.ret _
    · rw [if_neg h2, if_pos rfl, if_neg h2, ← cellsOne]
      generalize preT s = A at *
      refine Ev.call rfl tab25 ?_
      simp -implicitDefEqProofs (disch := omega) only [F25, go_sem, ↓reduceIte, reduceCtorEq, Nat.reduceAdd, Nat.reduceSub, Nat.reduceEqDiff, Nat.reduceLeDiff, Nat.reduceBEq]
      refine Ev.bind hc ?_
      simp -implicitDefEqProofs (disch := omega) only [e0, e1, Nat.sub_zero, go_sem, ↓reduceIte, reduceCtorEq, Nat.reduceAdd, Nat.reduceSub, Nat.reduceEqDiff, Nat.reduceLeDiff, Nat.reduceBEq]
      (refine Ev.bind (p1) ?_; simp -implicitDefEqProofs (disch := omega) only [go_sem, ↓reduceIte, reduceCtorEq, Nat.reduceAdd, Nat.reduceSub, Nat.reduceEqDiff, Nat.reduceLeDiff, Nat.reduceBEq]; refine Ev.bind (rone_ev) ?_; simp -implicitDefEqProofs (disch := omega) only [go_sem, ↓reduceIte, reduceCtorEq, Nat.reduceAdd, Nat.reduceSub, Nat.reduceEqDiff, Nat.reduceLeDiff, Nat.reduceBEq])
      exact Ev.ret _
  · rw [if_neg h1, if_neg h1]
    generalize preT s = A at *
    refine Ev.call rfl tab25 ?_
    simp -implicitDefEqProofs (disch := omega) only [F25, go_sem, ↓reduceIte, reduceCtorEq, Nat.reduceAdd, Nat.reduceSub, Nat.reduceEqDiff, Nat.reduceLeDiff, Nat.reduceBEq]
    refine Ev.bind hc ?_
    simp -implicitDefEqProofs (disch := omega) only [e0, e1, Nat.sub_zero, go_sem, ↓reduceIte, reduceCtorEq, Nat.reduceAdd, Nat.reduceSub, Nat.reduceEqDiff, Nat.reduceLeDiff, Nat.reduceBEq]
    (refine Ev.bind (p1) ?_; simp -implicitDefEqProofs (disch := omega) only [go_sem, ↓reduceIte, reduceCtorEq, Nat.reduceAdd, Nat.reduceSub, Nat.reduceEqDiff, Nat.reduceLeDiff, Nat.reduceBEq])
    exact Ev.ret _
end Go.Proofs.Ytpllmgmcfojmoaa.V
set_option linter.unusedSimpArgs false
set_option linter.unusedVariables false
namespace Go.Proofs.Ytpllmgmcfojmoaa.V
open Go Go.Proofs.Ytpllmgmcfojmoaa.M
def boolT (P : Program) (t : TypeId) : Bool := match P.underlying t with
  | some .bool => true
  | _ => false
def strT (P : Program) (t : TypeId) : Bool := match P.underlying t with
  | some .string => true
  | _ => false
def intT (P : Program) (k : IntKind) (t : TypeId) : Bool := match P.underlying t with
  | some (.int k') => decide (k = k')
  | _ => false
def intsT (P : Program) (k : IntKind) (t : TypeId) : Bool := match P.underlying t with
  | some (.slice e) => intT P k e
  | _ => false
theorem boolT_inv {P : Program} {t : TypeId} (h : boolT P t = true) {m : Nat} {ps : List PV} (ht : TyPV P m t ps) : ∃ b, ps = [.bool b] := by
  cases m with
  | zero => exact ht.elim
  | succ m =>
    unfold boolT at h
    unfold TyPV at ht
    split at h
    · rename_i hu; rw [hu] at ht; exact ht
    · cases h
theorem strT_inv {P : Program} {t : TypeId} (h : strT P t = true) {m : Nat} {ps : List PV} (ht : TyPV P m t ps) : ∃ s, ps = [.str s] ∧ s.length ≤ maxLen := by
  cases m with
  | zero => exact ht.elim
  | succ m =>
    unfold strT at h
    unfold TyPV at ht
    split at h
    · rename_i hu; rw [hu] at ht; exact ht
    · cases h
theorem intT_inv {P : Program} {k : IntKind} {t : TypeId} (h : intT P k t = true) {m : Nat} {ps : List PV} (ht : TyPV P m t ps) : ∃ z, ps = [.int k z] ∧ (Lit.int k z).wf = true := by
  cases m with
  | zero => exact ht.elim
  | succ m =>
    unfold intT at h
    unfold TyPV at ht
    split at h
    · rename_i k' hu
      have := of_decide_eq_true h
      subst this
      rw [hu] at ht; exact ht
    · cases h
theorem intsT_inv {P : Program} {k : IntKind} {t : TypeId} (h : intsT P k t = true) {m : Nat} {ps : List PV} (ht : TyPV P m t ps) : ∃ l : List Int, ps = [.ints k l] ∧ (∀ z ∈ l, (Lit.int k z).wf = true) ∧ l.length ≤ maxLen := by
  cases m with
  | zero => exact ht.elim
  | succ m =>
    unfold intsT at h
    unfold TyPV at ht
    split at h
    · rename_i e hu
      unfold intT at h
      split at h
      · rename_i k' hue
        have := of_decide_eq_true h
        subst this
        simp only [hu, hue] at ht; exact ht
      · cases h
    · cases h
theorem lim_wf {l : List Int} (h : ∀ x ∈ l, (Lit.int .u32 x).wf = true) : Lim l := by
  intro x hx
  have := h x hx
  simp only [Lit.wf, IntKind.min, IntKind.max, IntKind.signed, IntKind.bits, Bool.and_eq_true] at this
  have h1 := this.1
  have h2 := this.2
  simp at h1 h2
  omega
theorem i64_wf {x : Int} (h : (Lit.int .i64 x).wf = true) : -9223372036854775808 ≤ x ∧ x < 9223372036854775808 := by
  simp only [Lit.wf, IntKind.min, IntKind.max, IntKind.signed, IntKind.bits, Bool.and_eq_true] at h
  have h1 := h.1
  have h2 := h.2
  simp at h1 h2
  omega
/-- A struct of two fields. -/
def twoT (P : Program) (p q : TypeId → Bool) (t : TypeId) : Bool := match P.underlying t with
  | some (.struct fs) => match fs.toList with
    | [f, g] => p f.type && q g.type
    | _ => false
  | _ => false
theorem twoT_inv {P : Program} {p q : TypeId → Bool} {t : TypeId} (h : twoT P p q t = true) {m : Nat} {ps : List PV} (ht : TyPV P m t ps) : ∃ m' a b xs ys, p a = true ∧ q b = true ∧ ps = xs ++ ys ∧ TyPV P m' a xs ∧ TyPV P m' b ys := by
  cases m with
  | zero => exact ht.elim
  | succ m =>
    unfold twoT at h
    unfold TyPV at ht
    split at h
    · rename_i fs hu
      rw [hu] at ht
      split at h
      · rename_i f g hfs
        simp only [hfs, TyFs] at ht
        simp only [Bool.and_eq_true] at h
        obtain ⟨x, y, rfl, h1, z, w, rfl, h2, rfl⟩ := ht
        exact ⟨m, f.type, g.type, x, z, h.1, h.2, by simp, h1, h2⟩
      · cases h
    · cases h
def intZT (P : Program) (t : TypeId) : Bool := twoT P (boolT P) (intsT P .u32) t
theorem intZT_inv {P : Program} {t : TypeId} (h : intZT P t = true) {m : Nat} {ps : List PV} (ht : TyPV P m t ps) : ∃ b l, ps = [.bool b, .ints .u32 l] ∧ Lim l ∧ l.length ≤ maxLen := by
  obtain ⟨m', a, b, xs, ys, ha, hb, rfl, h1, h2⟩ := twoT_inv h ht
  obtain ⟨c, rfl⟩ := boolT_inv ha h1
  obtain ⟨l, rfl, h3, h4⟩ := intsT_inv hb h2
  exact ⟨c, l, rfl, lim_wf h3, h4⟩
theorem structT_arg {P : Program} {p q : TypeId → Bool} {t : TypeId} (h : twoT P p q t = true) (ps : List PV) : argPV P t ps = .agg ps := by
  unfold twoT at h
  unfold argPV
  split at h
  · rename_i fs hu; rw [hu]
  · cases h
end Go.Proofs.Ytpllmgmcfojmoaa.V
set_option linter.unusedSimpArgs false
set_option linter.unusedVariables false
namespace Go.Proofs.Ytpllmgmcfojmoaa.V
open Go Go.Proofs.Ytpllmgmcfojmoaa.M
theorem example3_ev : Ev (fun k => (lvl tab ext k).call 15 []) [(.pv (.bool (true)))] := Ev.seen (n := 300) (by kernel_rfl)
abbrev QA (b : Bool) (l d : List Int) : PV := .agg [.bool b, .ints .u32 l, .ints .u32 d]
def ratT (P : Program) (t : TypeId) : Bool := twoT P (intZT P) (intsT P .u32) t
theorem ratT_inv {P : Program} {t : TypeId} (h : ratT P t = true) {m : Nat} {ps : List PV} (ht : TyPV P m t ps) : ∃ b l d, ps = [.bool b, .ints .u32 l, .ints .u32 d] ∧ Lim l ∧ Lim d ∧ l.length ≤ maxLen ∧ d.length ≤ maxLen := by
  obtain ⟨m', a, c, xs, ys, ha, hc, rfl, h1, h2⟩ := twoT_inv h ht
  obtain ⟨b, l, rfl, hl, hl2⟩ := intZT_inv ha h1
  obtain ⟨d, rfl, h3, h4⟩ := intsT_inv hc h2
  exact ⟨b, l, d, rfl, hl, lim_wf h3, hl2, h4⟩
theorem intT_arg {P : Program} {k : IntKind} {t : TypeId} (h : intT P k t = true) (p : PV) : argPV P t [p] = p := by
  unfold intT at h
  unfold argPV
  split at h
  · rename_i hu; rw [hu]; rfl
  · cases h
theorem strT_arg {P : Program} {t : TypeId} (h : strT P t = true) (p : PV) : argPV P t [p] = p := by
  unfold strT at h
  unfold argPV
  split at h
  · rename_i hu; rw [hu]; rfl
  · cases h
theorem u32_wf {x : Int} (h : (Lit.int .u32 x).wf = true) : 0 ≤ x ∧ x < 4294967296 := by
  simp only [Lit.wf, IntKind.min, IntKind.max, IntKind.signed, IntKind.bits, Bool.and_eq_true] at h
  have h1 := h.1
  have h2 := h.2
  simp at h1 h2
  omega
theorem ret3 {F : Nat → Option (List AR)} {r : List AR} (h : Ev F r) : ∃ k, F k = some r := let ⟨n, h⟩ := h; ⟨n, h n (Nat.le_refl _)⟩
abbrev PureQ (ts : List TypeId) (f : Nat) : Prop := ∀ pss, All2 (fun t ps => ∃ m, TyPV Try.prog m t ps) ts pss → ∃ k, (lvl tab ext k).call f (((ts.zip pss).map fun q => argPV Try.prog q.1 q.2).map .pv) = some [.pv (.bool true)]
theorem pureQ1 {f : Nat} {t : TypeId} (ht : ratT Try.prog t = true) (h : ∀ b l d, Lim l → Lim d → Ev (fun k => (lvl tab ext k).call f [.pv (QA b l d)]) [(.pv (.bool (true)))]) : PureQ [t] f := by
  intro pss g
  cases g with
  | cons g1 g => cases g
                 obtain ⟨m1, g1⟩ := g1
                 obtain ⟨b, l, d, rfl, hl, hd, _⟩ := ratT_inv ht g1
                 show ∃ k, (lvl tab ext k).call f [.pv (argPV Try.prog _ _)] = _
                 rw [structT_arg ht]
                 exact ret3 (h b l d hl hd)
theorem pureQ2 {f : Nat} {t : TypeId} (ht : ratT Try.prog t = true) (h : ∀ b l d b' l' d', Lim l → Lim d → Lim l' → Lim d' → Ev (fun k => (lvl tab ext k).call f [.pv (QA b l d), .pv (QA b' l' d')]) [(.pv (.bool (true)))]) : PureQ [t, t] f := by
  intro pss g
  cases g with
  | cons g1 g => cases g with
    | cons g2 g => cases g
                   obtain ⟨m1, g1⟩ := g1
                   obtain ⟨m2, g2⟩ := g2
                   obtain ⟨b, l, d, rfl, hl, hd, _⟩ := ratT_inv ht g1
                   obtain ⟨b', l', d', rfl, hl', hd', _⟩ := ratT_inv ht g2
                   show ∃ k, (lvl tab ext k).call f [.pv (argPV Try.prog _ _), .pv (argPV Try.prog _ _)] = _
                   rw [structT_arg ht, structT_arg ht]
                   exact ret3 (h b l d b' l' d' hl hd hl' hd')
theorem pureQ3 {f : Nat} {t : TypeId} (ht : ratT Try.prog t = true) (h : ∀ b l d b' l' d' b'' l'' d'', Lim l → Lim d → Lim l' → Lim d' → Lim l'' → Lim d'' → Ev (fun k => (lvl tab ext k).call f [.pv (QA b l d), .pv (QA b' l' d'), .pv (QA b'' l'' d'')]) [(.pv (.bool (true)))]) : PureQ [t, t, t] f := by
  intro pss g
  cases g with
  | cons g1 g => cases g with
    | cons g2 g => cases g with
      | cons g3 g => cases g
                     obtain ⟨m1, g1⟩ := g1
                     obtain ⟨m2, g2⟩ := g2
                     obtain ⟨m3, g3⟩ := g3
                     obtain ⟨b, l, d, rfl, hl, hd, _⟩ := ratT_inv ht g1
                     obtain ⟨b', l', d', rfl, hl', hd', _⟩ := ratT_inv ht g2
                     obtain ⟨b'', l'', d'', rfl, hl'', hd'', _⟩ := ratT_inv ht g3
                     show ∃ k, (lvl tab ext k).call f [.pv (argPV Try.prog _ _), .pv (argPV Try.prog _ _), .pv (argPV Try.prog _ _)] = _
                     rw [structT_arg ht, structT_arg ht, structT_arg ht]
                     exact ret3 (h b l d b' l' d' b'' l'' d'' hl hd hl' hd' hl'' hd'')
theorem pureI2 {f : Nat} {t : TypeId} (ht : intT Try.prog .i64 t = true) (h : ∀ x y, Fits x → Fits y → Ev (fun k => (lvl tab ext k).call f [(.pv (.int .i64 (x))), (.pv (.int .i64 (y)))]) [(.pv (.bool (true)))]) : PureQ [t, t] f := by
  intro pss g
  cases g with
  | cons g1 g => cases g with
    | cons g2 g => cases g
                   obtain ⟨m1, g1⟩ := g1
                   obtain ⟨m2, g2⟩ := g2
                   obtain ⟨x, rfl, hx⟩ := intT_inv ht g1
                   obtain ⟨y, rfl, hy⟩ := intT_inv ht g2
                   show ∃ k, (lvl tab ext k).call f [.pv (argPV Try.prog _ _), .pv (argPV Try.prog _ _)] = _
                   rw [intT_arg ht, intT_arg ht]
                   exact ret3 (h x y (i64_wf hx) (i64_wf hy))
theorem pureQI {f : Nat} {t u : TypeId} {k : IntKind} (ht : ratT Try.prog t = true) (hu : intT Try.prog k u = true) (h : ∀ b l d x, Lim l → Lim d → (Lit.int k x).wf = true → Ev (fun j => (lvl tab ext j).call f [.pv (QA b l d), .pv (.int k x)]) [(.pv (.bool (true)))]) : PureQ [t, u] f := by
  intro pss g
  cases g with
  | cons g1 g => cases g with
    | cons g2 g => cases g
                   obtain ⟨m1, g1⟩ := g1
                   obtain ⟨m2, g2⟩ := g2
                   obtain ⟨b, l, d, rfl, hl, hd, _⟩ := ratT_inv ht g1
                   obtain ⟨x, rfl, hx⟩ := intT_inv hu g2
                   show ∃ k, (lvl tab ext k).call f [.pv (argPV Try.prog _ _), .pv (argPV Try.prog _ _)] = _
                   rw [structT_arg ht, intT_arg hu]
                   exact ret3 (h b l d x hl hd hx)
theorem pureQQI {f : Nat} {t u : TypeId} {k : IntKind} (ht : ratT Try.prog t = true) (hu : intT Try.prog k u = true) (h : ∀ b l d b' l' d' x, Lim l → Lim d → Lim l' → Lim d' → (Lit.int k x).wf = true → Ev (fun j => (lvl tab ext j).call f [.pv (QA b l d), .pv (QA b' l' d'), .pv (.int k x)]) [(.pv (.bool (true)))]) : PureQ [t, t, u] f := by
  intro pss g
  cases g with
  | cons g1 g => cases g with
    | cons g2 g => cases g with
      | cons g3 g => cases g
                     obtain ⟨m1, g1⟩ := g1
                     obtain ⟨m2, g2⟩ := g2
                     obtain ⟨m3, g3⟩ := g3
                     obtain ⟨b, l, d, rfl, hl, hd, _⟩ := ratT_inv ht g1
                     obtain ⟨b', l', d', rfl, hl', hd', _⟩ := ratT_inv ht g2
                     obtain ⟨x, rfl, hx⟩ := intT_inv hu g3
                     show ∃ k, (lvl tab ext k).call f [.pv (argPV Try.prog _ _), .pv (argPV Try.prog _ _), .pv (argPV Try.prog _ _)] = _
                     rw [structT_arg ht, structT_arg ht, intT_arg hu]
                     exact ret3 (h b l d b' l' d' x hl hd hl' hd' hx)
theorem pureS {f : Nat} {t : TypeId} (ht : strT Try.prog t = true) (h : ∀ s, Ev (fun k => (lvl tab ext k).call f [(.pv (.str (s)))]) [(.pv (.bool (true)))]) : PureQ [t] f := by
  intro pss g
  cases g with
  | cons g1 g => cases g
                 obtain ⟨m1, g1⟩ := g1
                 obtain ⟨s, rfl, hs⟩ := strT_inv ht g1
                 show ∃ k, (lvl tab ext k).call f [.pv (argPV Try.prog _ _)] = _
                 rw [strT_arg ht]
                 exact ret3 (h s)
theorem isq_mk {b : Bool} {l d : List Int} {n : Nat} (hl : Lim l) (hd : Lim d) (h1 : l.length ≤ n) (h2 : d.length ≤ n) (h3 : 1 ≤ n) (hn : n ≤ 100000) : IsQ (QA b l d) (rv b l d) ∧ Qz n (rv b l d) :=
  ⟨isQ_mk hl hd (by omega) (by omega), qz_rv hl hd h1 h2 h3⟩
theorem sameQ {r : Rat} {n : Nat} (h : Qz n r) (hn : n ≤ 1000000) : Ev (fun k => (lvl tab ext k).call 14 [.pv (ofQ r), .pv (ofQ r)]) [(.pv (.bool (true)))] := wsame_ev (qz_mono h hn)
theorem sameQe {r s : Rat} {n : Nat} (h : Qz n r) (hn : n ≤ 1000000) (e : r = s) : Ev (fun k => (lvl tab ext k).call 14 [.pv (ofQ r), .pv (ofQ s)]) [(.pv (.bool (true)))] := by
  subst e; exact sameQ h hn
theorem isQn {r : Rat} {n : Nat} (h : Qz n r) (hn : n ≤ 100000) : IsQ (ofQ r) r := isQ_of (qz_mono h hn)
theorem light2_ev {b b' : Bool} {l d l' d' : List Int} : Ev (fun k => (lvl tab ext k).call 26 [.pv (QA b l d), .pv (QA b' l' d')]) [(.pv (.bool (decide ((l.length ≤ 10 ∧ d.length ≤ 10) ∧ l'.length ≤ 10 ∧ d'.length ≤ 10))))] := by
  have s1 := wlight_ev (b := b) (l := l) (d := d) (n := 10)
  have s2 := wlight_ev (b := b') (l := l') (d := d') (n := 10)
  by_cases h1 : l.length ≤ 10 ∧ d.length ≤ 10
  · rw [decide_eq_true (by omega)] at s1
    by_cases h2 : l'.length ≤ 10 ∧ d'.length ≤ 10
    · rw [decide_eq_true (by omega)] at s2
      rw [decide_eq_true (by omega)]
      refine Ev.call rfl tab26 ?_
      simp -implicitDefEqProofs (disch := omega) only [F26, go_sem, ↓reduceIte, reduceCtorEq, Nat.reduceAdd, Nat.reduceSub, Nat.reduceEqDiff, Nat.reduceLeDiff, Nat.reduceBEq]
      (refine Ev.bind (s1) ?_; simp -implicitDefEqProofs (disch := omega) only [go_sem, ↓reduceIte, reduceCtorEq, Nat.reduceAdd, Nat.reduceSub, Nat.reduceEqDiff, Nat.reduceLeDiff, Nat.reduceBEq]; refine Ev.bind (s2) ?_; simp -implicitDefEqProofs (disch := omega) only [go_sem, ↓reduceIte, reduceCtorEq, Nat.reduceAdd, Nat.reduceSub, Nat.reduceEqDiff, Nat.reduceLeDiff, Nat.reduceBEq])
      exact Ev.ret _
    · rw [decide_eq_false (by omega)] at s2
      rw [decide_eq_false (by omega)]
      refine Ev.call rfl tab26 ?_
      simp -implicitDefEqProofs (disch := omega) only [F26, go_sem, ↓reduceIte, reduceCtorEq, Nat.reduceAdd, Nat.reduceSub, Nat.reduceEqDiff, Nat.reduceLeDiff, Nat.reduceBEq]
      (refine Ev.bind (s1) ?_; simp -implicitDefEqProofs (disch := omega) only [go_sem, ↓reduceIte, reduceCtorEq, Nat.reduceAdd, Nat.reduceSub, Nat.reduceEqDiff, Nat.reduceLeDiff, Nat.reduceBEq]; refine Ev.bind (s2) ?_; simp -implicitDefEqProofs (disch := omega) only [go_sem, ↓reduceIte, reduceCtorEq, Nat.reduceAdd, Nat.reduceSub, Nat.reduceEqDiff, Nat.reduceLeDiff, Nat.reduceBEq])
      exact Ev.ret _
  · rw [decide_eq_false (by omega)] at s1
    rw [decide_eq_false (by omega)]
    refine Ev.call rfl tab26 ?_
    simp -implicitDefEqProofs (disch := omega) only [F26, go_sem, ↓reduceIte, reduceCtorEq, Nat.reduceAdd, Nat.reduceSub, Nat.reduceEqDiff, Nat.reduceLeDiff, Nat.reduceBEq]
    (refine Ev.bind (s1) ?_; simp -implicitDefEqProofs (disch := omega) only [go_sem, ↓reduceIte, reduceCtorEq, Nat.reduceAdd, Nat.reduceSub, Nat.reduceEqDiff, Nat.reduceLeDiff, Nat.reduceBEq])
    exact Ev.ret _
end Go.Proofs.Ytpllmgmcfojmoaa.V
set_option linter.unusedSimpArgs false
set_option linter.unusedVariables false
namespace Go.Proofs.Ytpllmgmcfojmoaa.V
open Go Go.Proofs.Ytpllmgmcfojmoaa.M
theorem sz_fits {n : Int} (h : Fits n) : Sz 2 n := sz_int (by have := h.1; omega) (by have := h.2; omega)
theorem qz_of {n d : Int} (hn : Fits n) (hd : Fits d) : Qz 2 (Rat.divInt n d) := by
  rw [← of_rv]
  exact qz_rv (lim_abs n) (lim_abs d) (sz_fits hn) (sz_fits hd) (by decide)
theorem int_div_one (n : Int) : Rat.divInt n 1 = (n : Rat) := Rat.num_divInt_den (n : Rat)
theorem qn1_ev {n : Int} (h : Fits n) : Ev (fun k => (lvl tab ext k).call 12 [(.pv (.int .i64 (n))), (.pv (.int .i64 (1)))]) [.pv (ofQ (n : Rat)), (.pv (.bool (true)))] := by
  have := qof_ev h (show Fits 1 by decide) (by decide)
  rwa [int_div_one] at this
theorem qz_n1 {n : Int} (h : Fits n) : Qz 2 (n : Rat) := qz_int (sz_fits h) (by decide)
theorem q01_ev : Ev (fun k => (lvl tab ext k).call 12 [(.pv (.int .i64 (0))), (.pv (.int .i64 (1)))]) [.pv (ofQ 0), (.pv (.bool (true)))] := qn1_ev (n := 0) (by decide)
theorem q11_ev : Ev (fun k => (lvl tab ext k).call 12 [(.pv (.int .i64 (1))), (.pv (.int .i64 (1)))]) [.pv (ofQ 1), (.pv (.bool (true)))] := qn1_ev (n := 1) (by decide)
theorem q12_ev : Ev (fun k => (lvl tab ext k).call 12 [(.pv (.int .i64 (1))), (.pv (.int .i64 (2)))]) [.pv (ofQ (1 / 2)), (.pv (.bool (true)))] := by
  have := qof_ev (n := 1) (d := 2) (by decide) (by decide) (by decide)
  rwa [Rat.divInt_eq_div] at this
theorem qz_zero : Qz 2 0 := qz_n1 (n := 0) (by decide)
theorem qz_one : Qz 2 1 := qz_n1 (n := 1) (by decide)
theorem qz_half : Qz 2 (1 / 2) := by
  have := qz_of (n := 1) (d := 2) (by decide) (by decide)
  rwa [Rat.divInt_eq_div] at this
theorem sz_floor {n : Nat} {r : Rat} (h : Qz n r) : Sz n r.floor := by rw [Rat.floor_def]; exact sz_div h.1
theorem sz_round {n : Nat} {r : Rat} (h : Qz n r) : Sz (n + 2) (rround r) := by
  have e : (rround r).natAbs = (2 * r.num.natAbs + r.den) / (2 * r.den) := by
    unfold rround
    generalize (2 * r.num.natAbs + r.den) / (2 * r.den) = q
    split <;> omega
  unfold Sz
  rw [e]
  have h1 := len_mono (Nat.div_le_self (2 * r.num.natAbs + r.den) (2 * r.den))
  have h2 := len_add (2 * r.num.natAbs) r.den
  have h3 := len_mul 2 r.num.natAbs
  have h4 := len_small (n := 2) (by decide)
  have h5 := h.1
  have h6 := h.2
  omega
theorem sameI {z : Int} {n : Nat} (h : Sz n z) (hn : n ≤ 1000000) : Ev (fun k => (lvl tab ext k).call 17 [.pv (ofZ z), .pv (ofZ z)]) [(.pv (.bool (true)))] := wsameInt_ev (sz_mono h hn)
theorem light_t {b : Bool} {l d : List Int} {n : Nat} (h : l.length ≤ n ∧ d.length ≤ n) {m : Int} (hm : m = n) : Ev (fun k => (lvl tab ext k).call 16 [.pv (QA b l d), (.pv (.int .i64 (m)))]) [(.pv (.bool (true)))] := by
  have := wlight_ev (b := b) (l := l) (d := d) (n := m)
  rwa [decide_eq_true (by omega)] at this
theorem light_f {b : Bool} {l d : List Int} {n : Nat} (h : ¬ (l.length ≤ n ∧ d.length ≤ n)) {m : Int} (hm : m = n) : Ev (fun k => (lvl tab ext k).call 16 [.pv (QA b l d), (.pv (.int .i64 (m)))]) [(.pv (.bool (false)))] := by
  have := wlight_ev (b := b) (l := l) (d := d) (n := m)
  rwa [decide_eq_false (by omega)] at this
theorem qz_qN (s : List UInt8) : Qz 200 (qN s) := by
  unfold qN
  refine qz_mk (zN_len _) (m := 200) ?_ (Nat.le_refl _) (Nat.le_refl _) (by decide)
  split
  · exact rparseN_lt _
  · rw [len_one]; decide
theorem of_ev3 {z : Int} : Ev (fun k => (lvl tab ext k).call 43 [.pv (ofZ z)]) [.pv (ofQ (z : Rat))] := by
  rw [← cellsWhole]
  have e : ofZ z = .agg [.bool (sgnB z), .ints .u32 (absL z)] := rfl
  rw [e]
  refine Ev.call rfl tab43 ?_
  simp -implicitDefEqProofs (disch := omega) only [F43, go_sem, ↓reduceIte, reduceCtorEq, Nat.reduceAdd, Nat.reduceSub, Nat.reduceEqDiff, Nat.reduceLeDiff, Nat.reduceBEq]
  exact Ev.ret _
end Go.Proofs.Ytpllmgmcfojmoaa.V
