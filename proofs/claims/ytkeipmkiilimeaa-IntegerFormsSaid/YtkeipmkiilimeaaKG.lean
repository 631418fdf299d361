/- What the integer functions of the program come to: signed, Of, Norm, sign, Cmp, Neg, Add, Sub, Mul.
What the integer functions of the program come to: DivMod, Small.
What the integer functions of the program come to: Small, Text, Parse.
What the integer functions of the program come to: Text, Parse. -/
import Derived.Test.YtkeipmkiilimeaaKE
import Derived.Test.YtkeipmkiilimeaaKC

set_option linter.unusedSimpArgs false
set_option linter.unusedVariables false
namespace Go.Proofs.Ytkeipmkiilimeaa.V
open Go Go.Proofs.Ytkeipmkiilimeaa.M
theorem signed_ev {b : Bool} {l : List Int} (hl : Lim l) (hs : l.length ≤ 1000000000) : Ev (fun k => (lvl tab ext k).call 40 [(.pv (.bool (b))), (.pv (.ints .u32 (l)))]) [.pv (ofZ (iv b l))] := by
  rw [ofZ_iv]
  have h1 := len_val_le hl
  refine Ev.call rfl tab40 ?_
  simp -implicitDefEqProofs (disch := omega) only [F40, go_sem, ↓reduceIte, reduceCtorEq, Nat.reduceAdd, Nat.reduceSub, Nat.reduceEqDiff, Nat.reduceLeDiff, Nat.reduceBEq]
  refine Ev.bind (norm_ev hl hs) ?_
  by_cases hz : 0 < (ofN (val l)).length
  · cases b
    · simp -implicitDefEqProofs (disch := omega) only [go_sem, ↓reduceIte, reduceCtorEq, Nat.reduceAdd, Nat.reduceSub, Nat.reduceEqDiff, Nat.reduceLeDiff, Nat.reduceBEq]
      exact Ev.ret _
    · simp -implicitDefEqProofs (disch := omega) only [go_sem, ↓reduceIte, reduceCtorEq, Nat.reduceAdd, Nat.reduceSub, Nat.reduceEqDiff, Nat.reduceLeDiff, Nat.reduceBEq]
      exact Ev.ret _
  · cases b
    · simp -implicitDefEqProofs (disch := omega) only [go_sem, ↓reduceIte, reduceCtorEq, Nat.reduceAdd, Nat.reduceSub, Nat.reduceEqDiff, Nat.reduceLeDiff, Nat.reduceBEq]
      exact Ev.ret _
    · simp -implicitDefEqProofs (disch := omega) only [go_sem, ↓reduceIte, reduceCtorEq, Nat.reduceAdd, Nat.reduceSub, Nat.reduceEqDiff, Nat.reduceLeDiff, Nat.reduceBEq]
      exact Ev.ret _
theorem not_u64 {n : Int} (h0 : 0 ≤ n) (h1 : n < 18446744073709551616) : notI .u64 n = 18446744073709551615 - n := by
  obtain ⟨m, rfl⟩ := Int.eq_ofNat_of_zero_le h0
  have hm : m < 2 ^ 64 := by have : (m : Int) < 18446744073709551616 := h1; omega
  unfold notI
  have e : (BitVec.ofInt (IntKind.bits .u64) (if IntKind.signed .u64 = true then -1 else IntKind.max .u64) ^^^ BitVec.ofInt (IntKind.bits .u64) (m : Int)) = ~~~ (BitVec.ofNat 64 m) := by
    show (BitVec.ofInt 64 18446744073709551615) ^^^ (BitVec.ofInt 64 (m : Int)) = _
    rw [BitVec.ofInt_natCast, show BitVec.ofInt 64 18446744073709551615 = BitVec.allOnes 64 from rfl, BitVec.allOnes_xor]
  have e2 : (~~~ (BitVec.ofNat 64 m)).toNat = 18446744073709551615 - m := by
    rw [BitVec.toNat_not, BitVec.toNat_ofNat, Nat.mod_eq_of_lt hm]
  rw [e]
  show IntKind.u64.wrap (((~~~ (BitVec.ofNat 64 m)).toNat : Nat) : Int) = _
  rw [e2, u64 (by omega) (by omega)]
  omega
theorem zof_ev {n : Int} (h0 : -9223372036854775808 ≤ n) (h1 : n < 9223372036854775808) : Ev (fun k => (lvl tab ext k).call 26 [(.pv (.int .i64 (n)))]) [.pv (ofZ n)] := by
  by_cases h : n < 0
  · have e1 : n % 18446744073709551616 = n + 18446744073709551616 := by omega
    have e2 := not_u64 (n := n + 18446744073709551616) (by omega) (by omega)
    have ho := of_ev (a := -n) (by omega) (by omega)
    have sg := signed_ev (b := true) (lim_ofN (-n).toNat) (by have := len_u64 (n := (-n).toNat) (by omega); omega)
    rw [iv_norm, if_pos rfl, show -(((-n).toNat : Nat) : Int) = n from by omega] at sg
    have e3 : (18446744073709551615 - (n + 18446744073709551616) + 1) = -n := by omega
    refine Ev.call rfl tab26 ?_
    simp -implicitDefEqProofs (disch := omega) only [F26, e1, e2, e3, go_sem, ↓reduceIte, reduceCtorEq, Nat.reduceAdd, Nat.reduceSub, Nat.reduceEqDiff, Nat.reduceLeDiff, Nat.reduceBEq]
    refine Ev.bind ho ?_
    simp -implicitDefEqProofs (disch := omega) only [go_sem, ↓reduceIte, reduceCtorEq, Nat.reduceAdd, Nat.reduceSub, Nat.reduceEqDiff, Nat.reduceLeDiff, Nat.reduceBEq]
    refine Ev.bind sg ?_
    unfold ofZ
    simp -implicitDefEqProofs (disch := omega) only [go_sem, ↓reduceIte, reduceCtorEq, Nat.reduceAdd, Nat.reduceSub, Nat.reduceEqDiff, Nat.reduceLeDiff, Nat.reduceBEq]
    exact Ev.ret _
  · have ho := of_ev (a := n) (by omega) (by omega)
    have sg := signed_ev (b := false) (lim_ofN n.toNat) (by have := len_u64 (n := n.toNat) (by omega); omega)
    rw [iv_norm, if_neg (by decide), show ((n.toNat : Nat) : Int) = n from by omega] at sg
    refine Ev.call rfl tab26 ?_
    simp -implicitDefEqProofs (disch := omega) only [F26, go_sem, ↓reduceIte, reduceCtorEq, Nat.reduceAdd, Nat.reduceSub, Nat.reduceEqDiff, Nat.reduceLeDiff, Nat.reduceBEq]
    refine Ev.bind ho ?_
    simp -implicitDefEqProofs (disch := omega) only [go_sem, ↓reduceIte, reduceCtorEq, Nat.reduceAdd, Nat.reduceSub, Nat.reduceEqDiff, Nat.reduceLeDiff, Nat.reduceBEq]
    refine Ev.bind sg ?_
    unfold ofZ
    simp -implicitDefEqProofs (disch := omega) only [go_sem, ↓reduceIte, reduceCtorEq, Nat.reduceAdd, Nat.reduceSub, Nat.reduceEqDiff, Nat.reduceLeDiff, Nat.reduceBEq]
    exact Ev.ret _
theorem znorm_ev {p : PV} {x : Int} (h : IsZ p x) : Ev (fun k => (lvl tab ext k).call 28 [.pv p]) [.pv (ofZ x)] := by
  obtain ⟨b, l, rfl, hl, hs, rfl⟩ := h
  refine Ev.call rfl tab28 ?_
  simp -implicitDefEqProofs (disch := omega) only [F28, go_sem, ↓reduceIte, reduceCtorEq, Nat.reduceAdd, Nat.reduceSub, Nat.reduceEqDiff, Nat.reduceLeDiff, Nat.reduceBEq]
  refine Ev.bind (signed_ev hl (by omega)) ?_
  unfold ofZ
  simp -implicitDefEqProofs (disch := omega) only [go_sem, ↓reduceIte, reduceCtorEq, Nat.reduceAdd, Nat.reduceSub, Nat.reduceEqDiff, Nat.reduceLeDiff, Nat.reduceBEq]
  exact Ev.ret _
theorem zneg_ev {p : PV} {x : Int} (h : IsZ p x) : Ev (fun k => (lvl tab ext k).call 32 [.pv p]) [.pv (ofZ (-x))] := by
  obtain ⟨b, l, rfl, hl, hs, rfl⟩ := h
  have e : iv (!b) l = -iv b l := by cases b <;> simp [iv]
  have sg := signed_ev (b := !b) hl (by omega)
  rw [e] at sg
  refine Ev.call rfl tab32 ?_
  simp -implicitDefEqProofs (disch := omega) only [F32, go_sem, ↓reduceIte, reduceCtorEq, Nat.reduceAdd, Nat.reduceSub, Nat.reduceEqDiff, Nat.reduceLeDiff, Nat.reduceBEq]
  refine Ev.bind sg ?_
  unfold ofZ
  simp -implicitDefEqProofs (disch := omega) only [go_sem, ↓reduceIte, reduceCtorEq, Nat.reduceAdd, Nat.reduceSub, Nat.reduceEqDiff, Nat.reduceLeDiff, Nat.reduceBEq]
  exact Ev.ret _
theorem zsign_ev {p : PV} {x : Int} (h : IsZ p x) : Ev (fun k => (lvl tab ext k).call 54 [.pv p]) [(.pv (.int .i64 (isgn x)))] := by
  obtain ⟨b, l, rfl, hl, hs, rfl⟩ := h
  unfold isgn
  refine Ev.call rfl tab54 ?_
  simp -implicitDefEqProofs (disch := omega) only [F54, go_sem, ↓reduceIte, reduceCtorEq, Nat.reduceAdd, Nat.reduceSub, Nat.reduceEqDiff, Nat.reduceLeDiff, Nat.reduceBEq]
  refine Ev.bind (norm_ev hl (by omega)) ?_
  by_cases h0 : val l = 0
  · have e : iv b l = 0 := by cases b <;> simp [iv, h0]
    rw [e, icmp_eq, h0, ofN_zero]
    simp -implicitDefEqProofs (disch := omega) only [go_sem, ↓reduceIte, reduceCtorEq, Nat.reduceAdd, Nat.reduceSub, Nat.reduceEqDiff, Nat.reduceLeDiff, Nat.reduceBEq]
    exact Ev.ret _
  · have hp := ofN_length_pos.2 (Nat.pos_of_ne_zero h0)
    cases b
    · rw [icmp_gt (show 0 < iv false l by rw [iv_false]; omega)]
      simp -implicitDefEqProofs (disch := omega) only [go_sem, ↓reduceIte, reduceCtorEq, Nat.reduceAdd, Nat.reduceSub, Nat.reduceEqDiff, Nat.reduceLeDiff, Nat.reduceBEq]
      exact Ev.ret _
    · rw [icmp_lt (show iv true l < 0 by rw [iv_true]; omega)]
      simp -implicitDefEqProofs (disch := omega) only [go_sem, ↓reduceIte, reduceCtorEq, Nat.reduceAdd, Nat.reduceSub, Nat.reduceEqDiff, Nat.reduceLeDiff, Nat.reduceBEq]
      exact Ev.ret _
theorem zcmp_ev {p q : PV} {x y : Int} (hp : IsZ p x) (hq : IsZ q y) : Ev (fun k => (lvl tab ext k).call 30 [.pv p, .pv q]) [(.pv (.int .i64 (icmp x y)))] := by
  have s1 := zsign_ev hp
  have s2 := zsign_ev hq
  obtain ⟨b, l, rfl, hl, hs, rfl⟩ := hp
  obtain ⟨c, m, rfl, hm, hs2, rfl⟩ := hq
  have r1 := icmp_range (iv b l) 0
  have r2 := icmp_range (iv c m) 0
  have hc := cmp_ev hl hm (by omega) (by omega)
  refine Ev.call rfl tab30 ?_
  simp -implicitDefEqProofs (disch := omega) only [F30, go_sem, ↓reduceIte, reduceCtorEq, Nat.reduceAdd, Nat.reduceSub, Nat.reduceEqDiff, Nat.reduceLeDiff, Nat.reduceBEq]
  refine Ev.bind s1 ?_
  simp -implicitDefEqProofs (disch := omega) only [go_sem, ↓reduceIte, reduceCtorEq, Nat.reduceAdd, Nat.reduceSub, Nat.reduceEqDiff, Nat.reduceLeDiff, Nat.reduceBEq]
  refine Ev.bind s2 ?_
  unfold isgn
  by_cases he : icmp (iv b l) 0 = icmp (iv c m) 0
  · have key := sgn_cmp (iv_or b l) (iv_or c m) he
    have rg := cmp_range (val l) (val m)
    have rk := icmp_range (iv b l) (iv c m)
    rw [← key] at rk
    rw [← key]
    generalize icmp (iv b l) 0 = i1 at *
    generalize icmp (iv c m) 0 = i2 at *
    generalize hg : cmp (val l) (val m) = g at *
    generalize hk : i2 * g = k2 at *
    simp -implicitDefEqProofs (disch := omega) only [he, go_sem, ↓reduceIte, reduceCtorEq, Nat.reduceAdd, Nat.reduceSub, Nat.reduceEqDiff, Nat.reduceLeDiff, Nat.reduceBEq]
    refine Ev.bind hc ?_
    simp -implicitDefEqProofs (disch := omega) only [hk, go_sem, ↓reduceIte, reduceCtorEq, Nat.reduceAdd, Nat.reduceSub, Nat.reduceEqDiff, Nat.reduceLeDiff, Nat.reduceBEq]
    exact Ev.ret _
  · by_cases hlt : icmp (iv b l) 0 < icmp (iv c m) 0
    · have : iv b l < iv c m := by
        unfold icmp at hlt
        revert hlt
        repeat' split
        all_goals omega
      rw [icmp_lt this]
      clear this
      simp -implicitDefEqProofs (disch := omega) only [go_sem, ↓reduceIte, reduceCtorEq, Nat.reduceAdd, Nat.reduceSub, Nat.reduceEqDiff, Nat.reduceLeDiff, Nat.reduceBEq]
      exact Ev.ret _
    · have : iv c m < iv b l := by
        unfold icmp at hlt he
        revert hlt he
        repeat' split
        all_goals omega
      rw [icmp_gt this]
      clear this
      simp -implicitDefEqProofs (disch := omega) only [go_sem, ↓reduceIte, reduceCtorEq, Nat.reduceAdd, Nat.reduceSub, Nat.reduceEqDiff, Nat.reduceLeDiff, Nat.reduceBEq]
      exact Ev.ret _
theorem zadd_ev {p q : PV} {x y : Int} (hp : IsZ p x) (hq : IsZ q y) : Ev (fun k => (lvl tab ext k).call 34 [.pv p, .pv q]) [.pv (ofZ (x + y))] := by
  obtain ⟨b, l, rfl, hl, hs, rfl⟩ := hp
  obtain ⟨c, m, rfl, hm, hs2, rfl⟩ := hq
  have hA := add_ev hl hm (by omega) (by omega)
  have hC := cmp_ev hl hm (by omega) (by omega)
  have hS1 := sub_ev hl hm (by omega) (by omega)
  have hS2 := sub_ev hm hl (by omega) (by omega)
  have l1 := len_val_le hl
  have l2 := len_val_le hm
  have l3 := len_add (val l) (val m)
  by_cases hbc : b = c
  · subst hbc
    have sg := signed_ev (b := b) (lim_ofN (val l + val m)) (by omega)
    rw [iv_norm, show (if b = true then -((val l + val m : Nat) : Int) else ((val l + val m : Nat) : Int)) = iv b l + iv b m from by cases b <;> simp [iv] <;> omega] at sg
    have ht : (b = b) = True := eq_self b
    refine Ev.call rfl tab34 ?_
    simp -implicitDefEqProofs (disch := omega) only [F34, go_sem, ↓reduceIte, reduceCtorEq, Nat.reduceAdd, Nat.reduceSub, Nat.reduceEqDiff, Nat.reduceLeDiff, Nat.reduceBEq]
    refine Ev.bind hA ?_
    simp -implicitDefEqProofs (disch := omega) only [go_sem, ↓reduceIte, reduceCtorEq, Nat.reduceAdd, Nat.reduceSub, Nat.reduceEqDiff, Nat.reduceLeDiff, Nat.reduceBEq]
    refine Ev.bind sg ?_
    unfold ofZ
    simp -implicitDefEqProofs (disch := omega) only [go_sem, ↓reduceIte, reduceCtorEq, Nat.reduceAdd, Nat.reduceSub, Nat.reduceEqDiff, Nat.reduceLeDiff, Nat.reduceBEq]
    exact Ev.ret _
  · have hf : (b = c) = False := ff hbc
    by_cases hlt : val l < val m
    · have hcm := cmp_neg.2 hlt
      have sg := signed_ev (b := c) (lim_ofN (val m - val l)) (by have := len_mono (Nat.sub_le (val m) (val l)); omega)
      rw [iv_norm, show (if c = true then -((val m - val l : Nat) : Int) else ((val m - val l : Nat) : Int)) = iv b l + iv c m from by cases b <;> cases c <;> simp [iv] at * <;> omega] at sg
      refine Ev.call rfl tab34 ?_
      simp -implicitDefEqProofs (disch := omega) only [F34, hf, go_sem, ↓reduceIte, reduceCtorEq, Nat.reduceAdd, Nat.reduceSub, Nat.reduceEqDiff, Nat.reduceLeDiff, Nat.reduceBEq]
      refine Ev.bind hC ?_
      simp -implicitDefEqProofs (disch := omega) only [go_sem, ↓reduceIte, reduceCtorEq, Nat.reduceAdd, Nat.reduceSub, Nat.reduceEqDiff, Nat.reduceLeDiff, Nat.reduceBEq]
      refine Ev.bind hS2 ?_
      simp -implicitDefEqProofs (disch := omega) only [go_sem, ↓reduceIte, reduceCtorEq, Nat.reduceAdd, Nat.reduceSub, Nat.reduceEqDiff, Nat.reduceLeDiff, Nat.reduceBEq]
      refine Ev.bind sg ?_
      unfold ofZ
      simp -implicitDefEqProofs (disch := omega) only [go_sem, ↓reduceIte, reduceCtorEq, Nat.reduceAdd, Nat.reduceSub, Nat.reduceEqDiff, Nat.reduceLeDiff, Nat.reduceBEq]
      exact Ev.ret _
    · have hcm : 0 ≤ cmp (val l) (val m) := cmp_nonneg.2 (by omega)
      have sg := signed_ev (b := b) (lim_ofN (val l - val m)) (by have := len_mono (Nat.sub_le (val l) (val m)); omega)
      rw [iv_norm, show (if b = true then -((val l - val m : Nat) : Int) else ((val l - val m : Nat) : Int)) = iv b l + iv c m from by cases b <;> cases c <;> simp [iv] at * <;> omega] at sg
      refine Ev.call rfl tab34 ?_
      simp -implicitDefEqProofs (disch := omega) only [F34, hf, go_sem, ↓reduceIte, reduceCtorEq, Nat.reduceAdd, Nat.reduceSub, Nat.reduceEqDiff, Nat.reduceLeDiff, Nat.reduceBEq]
      refine Ev.bind hC ?_
      simp -implicitDefEqProofs (disch := omega) only [go_sem, ↓reduceIte, reduceCtorEq, Nat.reduceAdd, Nat.reduceSub, Nat.reduceEqDiff, Nat.reduceLeDiff, Nat.reduceBEq]
      refine Ev.bind hS1 ?_
      simp -implicitDefEqProofs (disch := omega) only [go_sem, ↓reduceIte, reduceCtorEq, Nat.reduceAdd, Nat.reduceSub, Nat.reduceEqDiff, Nat.reduceLeDiff, Nat.reduceBEq]
      refine Ev.bind sg ?_
      unfold ofZ
      simp -implicitDefEqProofs (disch := omega) only [go_sem, ↓reduceIte, reduceCtorEq, Nat.reduceAdd, Nat.reduceSub, Nat.reduceEqDiff, Nat.reduceLeDiff, Nat.reduceBEq]
      exact Ev.ret _
theorem zsub_ev {p q : PV} {x y : Int} (hp : IsZ p x) (hq : IsZ q y) (hy : Sz 1000000 y) : Ev (fun k => (lvl tab ext k).call 36 [.pv p, .pv q]) [.pv (ofZ (x - y))] := by
  have n := zneg_ev hq
  have a := zadd_ev hp (isZ_of (sz_neg hy))
  rw [← Int.sub_eq_add_neg] at a
  obtain ⟨b, l, rfl, hl, hs, rfl⟩ := hp
  obtain ⟨c, m, rfl, hm, hs2, rfl⟩ := hq
  refine Ev.call rfl tab36 ?_
  simp -implicitDefEqProofs (disch := omega) only [F36, go_sem, ↓reduceIte, reduceCtorEq, Nat.reduceAdd, Nat.reduceSub, Nat.reduceEqDiff, Nat.reduceLeDiff, Nat.reduceBEq]
  refine Ev.bind n ?_
  unfold ofZ at a ⊢
  simp -implicitDefEqProofs (disch := omega) only [go_sem, ↓reduceIte, reduceCtorEq, Nat.reduceAdd, Nat.reduceSub, Nat.reduceEqDiff, Nat.reduceLeDiff, Nat.reduceBEq]
  refine Ev.bind a ?_
  simp -implicitDefEqProofs (disch := omega) only [go_sem, ↓reduceIte, reduceCtorEq, Nat.reduceAdd, Nat.reduceSub, Nat.reduceEqDiff, Nat.reduceLeDiff, Nat.reduceBEq]
  exact Ev.ret _
theorem zmul_ev {p q : PV} {x y : Int} (hp : IsZ p x) (hq : IsZ q y) : Ev (fun k => (lvl tab ext k).call 17 [.pv p, .pv q]) [.pv (ofZ (x * y))] := by
  obtain ⟨b, l, rfl, hl, hs, rfl⟩ := hp
  obtain ⟨c, m, rfl, hm, hs2, rfl⟩ := hq
  have hM := mul_ev hl hm (by omega)
  have l1 := len_val_le hl
  have l2 := len_val_le hm
  have l3 := len_mul (val l) (val m)
  have sg := signed_ev (b := decide (¬ b = c)) (lim_ofN (val l * val m)) (by omega)
  rw [iv_norm, show (if decide (¬ b = c) = true then -((val l * val m : Nat) : Int) else ((val l * val m : Nat) : Int)) = iv b l * iv c m from by cases b <;> cases c <;> simp [iv, Int.neg_mul, Int.mul_neg]] at sg
  refine Ev.call rfl tab17 ?_
  simp -implicitDefEqProofs (disch := omega) only [F17, go_sem, ↓reduceIte, reduceCtorEq, Nat.reduceAdd, Nat.reduceSub, Nat.reduceEqDiff, Nat.reduceLeDiff, Nat.reduceBEq]
  refine Ev.bind hM ?_
  simp -implicitDefEqProofs (disch := omega) only [go_sem, ↓reduceIte, reduceCtorEq, Nat.reduceAdd, Nat.reduceSub, Nat.reduceEqDiff, Nat.reduceLeDiff, Nat.reduceBEq]
  refine Ev.bind sg ?_
  unfold ofZ
  simp -implicitDefEqProofs (disch := omega) only [go_sem, ↓reduceIte, reduceCtorEq, Nat.reduceAdd, Nat.reduceSub, Nat.reduceEqDiff, Nat.reduceLeDiff, Nat.reduceBEq]
  exact Ev.ret _
end Go.Proofs.Ytkeipmkiilimeaa.V
set_option linter.unusedSimpArgs false
set_option linter.unusedVariables false
namespace Go.Proofs.Ytkeipmkiilimeaa.V
open Go Go.Proofs.Ytkeipmkiilimeaa.M
theorem zdm0_ev {p q : PV} {x : Int} (hp : IsZ p x) (hq : IsZ q 0) : Ev (fun k => (lvl tab ext k).call 14 [.pv p, .pv q]) [.pv (ofZ 0), .pv (ofZ 0), (.pv (.bool (false)))] := by
  obtain ⟨b, l, rfl, hl, hs, rfl⟩ := hp
  obtain ⟨c, m, rfl, hm, hs2, he⟩ := hq
  have h0 : val m = 0 := by have := iv_or c m; omega
  have hd := divmod0_ev hl hm (by omega) (by omega) h0
  have e : ofZ 0 = .agg [.bool false, .ints .u32 []] := by unfold ofZ; rw [show (0 : Int).natAbs = 0 from rfl, ofN_zero]; rfl
  rw [e]
  refine Ev.call rfl tab14 ?_
  simp -implicitDefEqProofs (disch := omega) only [F14, go_sem, ↓reduceIte, reduceCtorEq, Nat.reduceAdd, Nat.reduceSub, Nat.reduceEqDiff, Nat.reduceLeDiff, Nat.reduceBEq]
  refine Ev.bind hd ?_
  simp -implicitDefEqProofs (disch := omega) only [go_sem, ↓reduceIte, reduceCtorEq, Nat.reduceAdd, Nat.reduceSub, Nat.reduceEqDiff, Nat.reduceLeDiff, Nat.reduceBEq]
  exact Ev.ret _
theorem zdivmod_ev {p q : PV} {x y : Int} (hp : IsZ p x) (hq : IsZ q y) (hy : y ≠ 0) : Ev (fun k => (lvl tab ext k).call 14 [.pv p, .pv q]) [.pv (ofZ (x / y)), .pv (ofZ (x % y)), (.pv (.bool (true)))] := by
  obtain ⟨b, l, rfl, hl, hs, rfl⟩ := hp
  obtain ⟨c, m, rfl, hm, hs2, rfl⟩ := hq
  have hv0 : val m ≠ 0 := by intro h; apply hy; have := iv_or c m; omega
  obtain ⟨o, hd⟩ := divmod_ev hl hm (by omega) (by omega) hv0
  have l1 := len_val_le hl
  have l2 := len_val_le hm
  have l3 := len_mono (Nat.div_le_self (val l) (val m))
  have l4 := len_mono (Nat.le_of_lt (Nat.mod_lt (val l) (Nat.pos_of_ne_zero hv0)))
  have s1 := signed_ev (b := decide (¬ b = c)) (lim_ofN (val l / val m)) (by omega)
  have s2 := signed_ev (b := b) (lim_ofN (val l % val m)) (by omega)
  have s3 := signed_ev (b := false) hm (by omega)
  have hdm := Nat.div_add_mod (val l) (val m)
  have hlt := Nat.mod_lt (val l) (Nat.pos_of_ne_zero hv0)
  have ez : (0 : Int) + 1 = 1 := rfl
  generalize hQ : val l / val m = Q at *
  generalize hR : val l % val m = R at *
  have hx : iv b l = if b = true then -((val m : Int) * (Q : Int) + (R : Int)) else (val m : Int) * (Q : Int) + (R : Int) := by
    have : ((val l : Nat) : Int) = (val m : Int) * (Q : Int) + (R : Int) := by rw [← hdm]; simp
    unfold iv
    rw [this]
  rw [iv_norm] at s1 s2
  by_cases hr : b = true ∧ R ≠ 0
  · obtain ⟨rfl, hR0⟩ := hr
    have key : iv true l / iv c m = (if c = true then (Q : Int) + 1 else -(Q : Int) - 1) ∧ iv true l % iv c m = (val m : Int) - (R : Int) := by
      refine zdm hy ?_ (by omega) (by rw [iv_abs]; omega)
      rw [hx]
      cases c
      · rw [iv_false, if_neg (by decide), if_pos rfl, Int.mul_sub, Int.mul_neg]; omega
      · rw [iv_true, if_pos rfl, if_pos rfl, Int.neg_mul, Int.mul_add]; omega
    rw [key.1, key.2]
    have sR : Sz 1000000 (-(R : Int)) := by apply sz_neg; unfold Sz; show (ofN R).length ≤ _; omega
    have sm : Sz 1000000 ((val m : Nat) : Int) := by unfold Sz; show (ofN (val m)).length ≤ _; omega
    have a1 := zadd_ev (isZ_of sR) (isZ_of sm)
    have o1 := zof_ev (n := 1) (by decide) (by decide)
    have s1' : Sz 1000000 1 := sz_mono (sz_int (by decide) (by decide)) (by decide)
    rw [if_pos rfl] at s2
    rw [iv_false] at s3
    rw [show -(R : Int) + (val m : Int) = (val m : Int) - (R : Int) from by omega] at a1
    have hb1 : decide (-(R : Int) < 0) = true := decide_eq_true (by omega)
    clear key hx hdm hQ hR
    cases c
    · have a2 := zsub_ev (isZ_of (z := -(Q : Int)) (by apply sz_neg; unfold Sz; show (ofN Q).length ≤ _; omega)) (isZ_of s1') s1'
      have e1 : decide (¬ true = false) = true := rfl
      rw [e1, if_pos rfl] at s1
      rw [if_neg (by decide)]
      unfold ofZ at s1 s2 s3 a1 a2 o1 ⊢
      simp -implicitDefEqProofs (disch := omega) only [go_sem, ↓reduceIte, reduceCtorEq, Nat.reduceAdd, Nat.reduceSub, Nat.reduceEqDiff, Nat.reduceLeDiff, Nat.reduceBEq] at s1 s2 s3 a1 a2 o1
      refine Ev.call rfl tab14 ?_
      simp -implicitDefEqProofs (disch := omega) only [F14, go_sem, ↓reduceIte, reduceCtorEq, Nat.reduceAdd, Nat.reduceSub, Nat.reduceEqDiff, Nat.reduceLeDiff, Nat.reduceBEq]
      refine Ev.bind hd ?_
      simp -implicitDefEqProofs (disch := omega) only [e1, go_sem, ↓reduceIte, reduceCtorEq, Nat.reduceAdd, Nat.reduceSub, Nat.reduceEqDiff, Nat.reduceLeDiff, Nat.reduceBEq]
      refine Ev.bind s1 ?_
      simp -implicitDefEqProofs (disch := omega) only [go_sem, ↓reduceIte, reduceCtorEq, Nat.reduceAdd, Nat.reduceSub, Nat.reduceEqDiff, Nat.reduceLeDiff, Nat.reduceBEq]
      refine Ev.bind s2 ?_
      simp -implicitDefEqProofs (disch := omega) only [go_sem, ↓reduceIte, reduceCtorEq, Nat.reduceAdd, Nat.reduceSub, Nat.reduceEqDiff, Nat.reduceLeDiff, Nat.reduceBEq]
      refine Ev.bind s3 ?_
      simp -implicitDefEqProofs (disch := omega) only [go_sem, ↓reduceIte, reduceCtorEq, Nat.reduceAdd, Nat.reduceSub, Nat.reduceEqDiff, Nat.reduceLeDiff, Nat.reduceBEq]
      refine Ev.bind a1 ?_
      simp -implicitDefEqProofs (disch := omega) only [go_sem, ↓reduceIte, reduceCtorEq, Nat.reduceAdd, Nat.reduceSub, Nat.reduceEqDiff, Nat.reduceLeDiff, Nat.reduceBEq]
      refine Ev.bind o1 ?_
      simp -implicitDefEqProofs (disch := omega) only [go_sem, ↓reduceIte, reduceCtorEq, Nat.reduceAdd, Nat.reduceSub, Nat.reduceEqDiff, Nat.reduceLeDiff, Nat.reduceBEq]
      refine Ev.bind a2 ?_
      simp -implicitDefEqProofs (disch := omega) only [go_sem, ↓reduceIte, reduceCtorEq, Nat.reduceAdd, Nat.reduceSub, Nat.reduceEqDiff, Nat.reduceLeDiff, Nat.reduceBEq]
      exact Ev.ret _
    · have a2 := zadd_ev (isZ_of (z := (Q : Int)) (by unfold Sz; show (ofN Q).length ≤ _; omega)) (isZ_of s1')
      have e1 : decide (¬ true = true) = false := rfl
      rw [e1, if_neg (by decide)] at s1
      rw [if_pos rfl]
      unfold ofZ at s1 s2 s3 a1 a2 o1 ⊢
      simp -implicitDefEqProofs (disch := omega) only [go_sem, ↓reduceIte, reduceCtorEq, Nat.reduceAdd, Nat.reduceSub, Nat.reduceEqDiff, Nat.reduceLeDiff, Nat.reduceBEq] at s1 s2 s3 a1 a2 o1
      refine Ev.call rfl tab14 ?_
      simp -implicitDefEqProofs (disch := omega) only [F14, go_sem, ↓reduceIte, reduceCtorEq, Nat.reduceAdd, Nat.reduceSub, Nat.reduceEqDiff, Nat.reduceLeDiff, Nat.reduceBEq]
      refine Ev.bind hd ?_
      simp -implicitDefEqProofs (disch := omega) only [e1, go_sem, ↓reduceIte, reduceCtorEq, Nat.reduceAdd, Nat.reduceSub, Nat.reduceEqDiff, Nat.reduceLeDiff, Nat.reduceBEq]
      refine Ev.bind s1 ?_
      simp -implicitDefEqProofs (disch := omega) only [go_sem, ↓reduceIte, reduceCtorEq, Nat.reduceAdd, Nat.reduceSub, Nat.reduceEqDiff, Nat.reduceLeDiff, Nat.reduceBEq]
      refine Ev.bind s2 ?_
      simp -implicitDefEqProofs (disch := omega) only [go_sem, ↓reduceIte, reduceCtorEq, Nat.reduceAdd, Nat.reduceSub, Nat.reduceEqDiff, Nat.reduceLeDiff, Nat.reduceBEq]
      refine Ev.bind s3 ?_
      simp -implicitDefEqProofs (disch := omega) only [go_sem, ↓reduceIte, reduceCtorEq, Nat.reduceAdd, Nat.reduceSub, Nat.reduceEqDiff, Nat.reduceLeDiff, Nat.reduceBEq]
      refine Ev.bind a1 ?_
      simp -implicitDefEqProofs (disch := omega) only [go_sem, ↓reduceIte, reduceCtorEq, Nat.reduceAdd, Nat.reduceSub, Nat.reduceEqDiff, Nat.reduceLeDiff, Nat.reduceBEq]
      refine Ev.bind o1 ?_
      simp -implicitDefEqProofs (disch := omega) only [go_sem, ↓reduceIte, reduceCtorEq, Nat.reduceAdd, Nat.reduceSub, Nat.reduceEqDiff, Nat.reduceLeDiff, Nat.reduceBEq]
      refine Ev.bind a2 ?_
      simp -implicitDefEqProofs (disch := omega) only [go_sem, ↓reduceIte, reduceCtorEq, Nat.reduceAdd, Nat.reduceSub, Nat.reduceEqDiff, Nat.reduceLeDiff, Nat.reduceBEq]
      exact Ev.ret _
  · have key : iv b l / iv c m = (if decide (¬ b = c) = true then -(Q : Int) else (Q : Int)) ∧ iv b l % iv c m = (R : Int) := by
      refine zdm hy ?_ (by omega) (by rw [iv_abs]; omega)
      rw [hx]
      cases b
      · cases c
        · show (R : Int) + (val m : Int) * (Q : Int) = (val m : Int) * (Q : Int) + (R : Int); omega
        · show (R : Int) + -(val m : Int) * -(Q : Int) = (val m : Int) * (Q : Int) + (R : Int); rw [Int.neg_mul_neg]; omega
      · have hR0 : R = 0 := by
          rcases Nat.eq_zero_or_pos R with h | h
          · exact h
          · exact absurd ⟨rfl, by omega⟩ hr
        subst hR0
        cases c
        · show ((0 : Nat) : Int) + (val m : Int) * -(Q : Int) = -((val m : Int) * (Q : Int) + ((0 : Nat) : Int)); rw [Int.mul_neg]; omega
        · show ((0 : Nat) : Int) + -(val m : Int) * (Q : Int) = -((val m : Int) * (Q : Int) + ((0 : Nat) : Int)); rw [Int.neg_mul]; omega
    have hs2 : (if b = true then -(R : Int) else (R : Int)) = (R : Int) := by
      cases b
      · rfl
      · rw [if_pos rfl]
        rcases Nat.eq_zero_or_pos R with h | h
        · omega
        · exact absurd ⟨rfl, by omega⟩ hr
    rw [key.1, key.2]
    rw [hs2] at s2
    clear key hx hdm hQ hR hs2 hr
    generalize (if decide (¬ b = c) = true then -(Q : Int) else (Q : Int)) = Z at *
    unfold ofZ at s1 s2 ⊢
    simp -implicitDefEqProofs (disch := omega) only [go_sem, ↓reduceIte, reduceCtorEq, Nat.reduceAdd, Nat.reduceSub, Nat.reduceEqDiff, Nat.reduceLeDiff, Nat.reduceBEq] at s1 s2
    refine Ev.call rfl tab14 ?_
    simp -implicitDefEqProofs (disch := omega) only [F14, go_sem, ↓reduceIte, reduceCtorEq, Nat.reduceAdd, Nat.reduceSub, Nat.reduceEqDiff, Nat.reduceLeDiff, Nat.reduceBEq]
    refine Ev.bind hd ?_
    simp -implicitDefEqProofs (disch := omega) only [go_sem, ↓reduceIte, reduceCtorEq, Nat.reduceAdd, Nat.reduceSub, Nat.reduceEqDiff, Nat.reduceLeDiff, Nat.reduceBEq]
    refine Ev.bind s1 ?_
    simp -implicitDefEqProofs (disch := omega) only [go_sem, ↓reduceIte, reduceCtorEq, Nat.reduceAdd, Nat.reduceSub, Nat.reduceEqDiff, Nat.reduceLeDiff, Nat.reduceBEq]
    refine Ev.bind s2 ?_
    simp -implicitDefEqProofs (disch := omega) only [go_sem, ↓reduceIte, reduceCtorEq, Nat.reduceAdd, Nat.reduceSub, Nat.reduceEqDiff, Nat.reduceLeDiff, Nat.reduceBEq]
    exact Ev.ret _
end Go.Proofs.Ytkeipmkiilimeaa.V
set_option linter.unusedSimpArgs false
set_option linter.unusedVariables false
namespace Go.Proofs.Ytkeipmkiilimeaa.V
open Go Go.Proofs.Ytkeipmkiilimeaa.M
theorem zsmall_loop {b : Bool} {l0 L : List Int} (hL : Lim L) (h2 : L.length ≤ 2) : ∀ d i, d + i = L.length → ∀ n : Int, n = i → ∀ u : Int, u = (val (L.take i) : Nat) →
    Ev (fun k => run (lvl tab ext k) F24C0 F24L0 ⟨mk [(1, .ptr 1 0), (5, (.pv (.int .u64 (u)))), (14, (.pv (.ints .u32 (L)))), (15, (.pv (.int .i64 ((L.length : Int))))), (16, (.pv (.int .i64 (n))))], hp [(1, .vars [.pv (.bool b), .pv (.ints .u32 l0)])]⟩)
      (.exit 0, ⟨mk [(1, .ptr 1 0), (5, (.pv (.int .u64 (((val L : Nat) : Int))))), (14, (.pv (.ints .u32 (L)))), (15, (.pv (.int .i64 ((L.length : Int))))), (16, (.pv (.int .i64 ((L.length : Int))))), (17, (.pv (.bool (false))))], hp [(1, .vars [.pv (.bool b), .pv (.ints .u32 l0)])]⟩) := by
  intro d
  induction d with
  | zero =>
    intro i hd n hn u hu
    have : i = L.length := by omega
    subst this
    subst hn
    rw [List.take_length] at hu
    subst hu
    refine Ev.body (by unfold F24L0; rfl) ?_
    simp -implicitDefEqProofs (disch := omega) only [go_sem, ↓reduceIte, reduceCtorEq, Nat.reduceAdd, Nat.reduceSub, Nat.reduceEqDiff, Nat.reduceLeDiff, Nat.reduceBEq]
    exact Ev.ret _
  | succ d ih =>
    intro i hd n hn u hu
    subst hn
    have lx := lim_getD hL i
    have hlt := val_lt_take hL i
    have e := or_shift (u := u) (x := L.getD i 0) (i := i) (by omega) (by omega) (by omega) lx.1 lx.2
    have r := ih (i + 1) (by omega) ((i : Int) + 1) (by omega) (u + (P i : Nat) * L.getD i 0) (by
      rw [val_take_succ (by omega), hu]
      obtain ⟨x, hx⟩ := Int.eq_ofNat_of_zero_le lx.1
      rw [hx]; simp)
    clear ih hu hlt
    refine Ev.body (by unfold F24L0; rfl) ?_
    simp -implicitDefEqProofs (disch := omega) only [e, go_sem, ↓reduceIte, reduceCtorEq, Nat.reduceAdd, Nat.reduceSub, Nat.reduceEqDiff, Nat.reduceLeDiff, Nat.reduceBEq]
    exact Ev.lp (by simp -implicitDefEqProofs (disch := omega) only [F24C0, go_sem, ↓reduceIte, reduceCtorEq, Nat.reduceAdd, Nat.reduceSub, Nat.reduceEqDiff, Nat.reduceLeDiff, Nat.reduceBEq]) r
theorem zsmall_ev {p : PV} {x : Int} (h : IsZ p x) : Ev (fun k => (lvl tab ext k).call 24 [.pv p]) [(.pv (.int .i64 (if Fits x then x else 0))), (.pv (.bool (decide (Fits x))))] := by
  obtain ⟨b, l, rfl, hl, hs, rfl⟩ := h
  have hn := norm_ev hl (by omega)
  have hx := iv_abs b l
  generalize hv : val l = v at *
  by_cases h2 : (ofN v).length ≤ 2
  · have hb : v < 18446744073709551616 := by
      have := lt_P_len v
      have h3 := P_mono h2
      have h4 : P 2 = 18446744073709551616 := rfl
      omega
    have lp := zsmall_loop (b := b) (l0 := l) (lim_ofN v) h2 (ofN v).length 0 (by omega) 0 rfl 0 rfl
    rw [val_ofN] at lp
    cases b
    · have e : iv false l = (v : Int) := by rw [iv_false, hv]
      rw [e]
      by_cases hf : v < 9223372036854775808
      · rw [if_pos (show Fits _ from ⟨by omega, by omega⟩), decide_eq_true (show Fits _ from ⟨by omega, by omega⟩)]
        refine Ev.call rfl tab24 ?_
        simp -implicitDefEqProofs (disch := omega) only [F24, go_sem, ↓reduceIte, reduceCtorEq, Nat.reduceAdd, Nat.reduceSub, Nat.reduceEqDiff, Nat.reduceLeDiff, Nat.reduceBEq]
        refine Ev.bind hn ?_
        simp -implicitDefEqProofs (disch := omega) only [go_sem, ↓reduceIte, reduceCtorEq, Nat.reduceAdd, Nat.reduceSub, Nat.reduceEqDiff, Nat.reduceLeDiff, Nat.reduceBEq]
        refine Ev.bind (Ev.lp (by simp -implicitDefEqProofs (disch := omega) only [F24C0, go_sem, ↓reduceIte, reduceCtorEq, Nat.reduceAdd, Nat.reduceSub, Nat.reduceEqDiff, Nat.reduceLeDiff, Nat.reduceBEq]) lp) ?_
        simp -implicitDefEqProofs (disch := omega) only [go_sem, ↓reduceIte, reduceCtorEq, Nat.reduceAdd, Nat.reduceSub, Nat.reduceEqDiff, Nat.reduceLeDiff, Nat.reduceBEq]
        exact Ev.ret _
      · rw [if_neg (fun h : Fits _ => by have := h.2; omega), decide_eq_false (fun h : Fits _ => by have := h.2; omega)]
        refine Ev.call rfl tab24 ?_
        simp -implicitDefEqProofs (disch := omega) only [F24, go_sem, ↓reduceIte, reduceCtorEq, Nat.reduceAdd, Nat.reduceSub, Nat.reduceEqDiff, Nat.reduceLeDiff, Nat.reduceBEq]
        refine Ev.bind hn ?_
        simp -implicitDefEqProofs (disch := omega) only [go_sem, ↓reduceIte, reduceCtorEq, Nat.reduceAdd, Nat.reduceSub, Nat.reduceEqDiff, Nat.reduceLeDiff, Nat.reduceBEq]
        refine Ev.bind (Ev.lp (by simp -implicitDefEqProofs (disch := omega) only [F24C0, go_sem, ↓reduceIte, reduceCtorEq, Nat.reduceAdd, Nat.reduceSub, Nat.reduceEqDiff, Nat.reduceLeDiff, Nat.reduceBEq]) lp) ?_
        simp -implicitDefEqProofs (disch := omega) only [go_sem, ↓reduceIte, reduceCtorEq, Nat.reduceAdd, Nat.reduceSub, Nat.reduceEqDiff, Nat.reduceLeDiff, Nat.reduceBEq]
        exact Ev.ret _
    · have e : iv true l = -(v : Int) := by rw [iv_true, hv]
      rw [e]
      by_cases hf : v ≤ 9223372036854775808
      · rw [if_pos (show Fits _ from ⟨by omega, by omega⟩), decide_eq_true (show Fits _ from ⟨by omega, by omega⟩)]
        have e2 := not_u64 (n := (v : Int)) (by omega) (by omega)
        have e3 := wrap_neg (n := (v : Int)) (by omega) (by omega)
        refine Ev.call rfl tab24 ?_
        simp -implicitDefEqProofs (disch := omega) only [F24, go_sem, ↓reduceIte, reduceCtorEq, Nat.reduceAdd, Nat.reduceSub, Nat.reduceEqDiff, Nat.reduceLeDiff, Nat.reduceBEq]
        refine Ev.bind hn ?_
        simp -implicitDefEqProofs (disch := omega) only [go_sem, ↓reduceIte, reduceCtorEq, Nat.reduceAdd, Nat.reduceSub, Nat.reduceEqDiff, Nat.reduceLeDiff, Nat.reduceBEq]
        refine Ev.bind (Ev.lp (by simp -implicitDefEqProofs (disch := omega) only [F24C0, go_sem, ↓reduceIte, reduceCtorEq, Nat.reduceAdd, Nat.reduceSub, Nat.reduceEqDiff, Nat.reduceLeDiff, Nat.reduceBEq]) lp) ?_
        simp -implicitDefEqProofs (disch := omega) only [e2, e3.1, e3.2, go_sem, ↓reduceIte, reduceCtorEq, Nat.reduceAdd, Nat.reduceSub, Nat.reduceEqDiff, Nat.reduceLeDiff, Nat.reduceBEq]
        exact ret_two (by omega)
      · rw [if_neg (fun h : Fits _ => by have := h.1; omega), decide_eq_false (fun h : Fits _ => by have := h.1; omega)]
        refine Ev.call rfl tab24 ?_
        simp -implicitDefEqProofs (disch := omega) only [F24, go_sem, ↓reduceIte, reduceCtorEq, Nat.reduceAdd, Nat.reduceSub, Nat.reduceEqDiff, Nat.reduceLeDiff, Nat.reduceBEq]
        refine Ev.bind hn ?_
        simp -implicitDefEqProofs (disch := omega) only [go_sem, ↓reduceIte, reduceCtorEq, Nat.reduceAdd, Nat.reduceSub, Nat.reduceEqDiff, Nat.reduceLeDiff, Nat.reduceBEq]
        refine Ev.bind (Ev.lp (by simp -implicitDefEqProofs (disch := omega) only [F24C0, go_sem, ↓reduceIte, reduceCtorEq, Nat.reduceAdd, Nat.reduceSub, Nat.reduceEqDiff, Nat.reduceLeDiff, Nat.reduceBEq]) lp) ?_
        simp -implicitDefEqProofs (disch := omega) only [go_sem, ↓reduceIte, reduceCtorEq, Nat.reduceAdd, Nat.reduceSub, Nat.reduceEqDiff, Nat.reduceLeDiff, Nat.reduceBEq]
        exact Ev.ret _
  · have hb : 18446744073709551616 ≤ v := by
      have := P_len_le (n := v) (by rintro rfl; rw [ofN_zero] at h2; exact h2 (by decide))
      have h3 := P_mono (show 2 ≤ (ofN v).length - 1 by omega)
      have h4 : P 2 = 18446744073709551616 := rfl
      omega
    rw [if_neg (fun h : Fits _ => by have h1 := h.1; have h2 := h.2; omega), decide_eq_false (fun h : Fits _ => by have h1 := h.1; have h2 := h.2; omega)]
    refine Ev.call rfl tab24 ?_
    simp -implicitDefEqProofs (disch := omega) only [F24, go_sem, ↓reduceIte, reduceCtorEq, Nat.reduceAdd, Nat.reduceSub, Nat.reduceEqDiff, Nat.reduceLeDiff, Nat.reduceBEq]
    refine Ev.bind hn ?_
    simp -implicitDefEqProofs (disch := omega) only [go_sem, ↓reduceIte, reduceCtorEq, Nat.reduceAdd, Nat.reduceSub, Nat.reduceEqDiff, Nat.reduceLeDiff, Nat.reduceBEq]
    exact Ev.ret _
end Go.Proofs.Ytkeipmkiilimeaa.V
set_option linter.unusedSimpArgs false
set_option linter.unusedVariables false
namespace Go.Proofs.Ytkeipmkiilimeaa.V
open Go Go.Proofs.Ytkeipmkiilimeaa.M
theorem textZ_len (z : Int) : (textZ z).length ≤ 32 * (ofN z.natAbs).length + 2 := by
  unfold textZ
  have := textN_len z.natAbs
  split
  · rw [List.length_cons]; omega
  · omega
theorem ztext_ev {p : PV} {x : Int} (h : IsZ p x) : Ev (fun k => (lvl tab ext k).call 22 [.pv p]) [(.pv (.str (textZ x)))] := by
  have sg := zsign_ev h
  obtain ⟨b, l, rfl, hl, hs, rfl⟩ := h
  have ht := text_ev hl (by omega)
  have tl := textN_len (val l)
  have l1 := len_val_le hl
  unfold isgn at sg
  unfold textZ
  rw [iv_abs]
  generalize textN (val l) = t at *
  by_cases h0 : iv b l < 0
  · rw [if_pos h0]
    have := icmp_lt h0
    rw [this] at sg
    refine Ev.call rfl tab22 ?_
    simp -implicitDefEqProofs (disch := omega) only [F22, go_sem, ↓reduceIte, reduceCtorEq, Nat.reduceAdd, Nat.reduceSub, Nat.reduceEqDiff, Nat.reduceLeDiff, Nat.reduceBEq]
    refine Ev.bind ht ?_
    simp -implicitDefEqProofs (disch := omega) only [go_sem, ↓reduceIte, reduceCtorEq, Nat.reduceAdd, Nat.reduceSub, Nat.reduceEqDiff, Nat.reduceLeDiff, Nat.reduceBEq]
    refine Ev.bind sg ?_
    simp -implicitDefEqProofs (disch := omega) only [go_sem, ↓reduceIte, reduceCtorEq, Nat.reduceAdd, Nat.reduceSub, Nat.reduceEqDiff, Nat.reduceLeDiff, Nat.reduceBEq]
    exact Ev.ret _
  · rw [if_neg h0]
    have : 0 ≤ icmp (iv b l) 0 := icmp_nonneg.2 (by omega)
    refine Ev.call rfl tab22 ?_
    simp -implicitDefEqProofs (disch := omega) only [F22, go_sem, ↓reduceIte, reduceCtorEq, Nat.reduceAdd, Nat.reduceSub, Nat.reduceEqDiff, Nat.reduceLeDiff, Nat.reduceBEq]
    refine Ev.bind ht ?_
    simp -implicitDefEqProofs (disch := omega) only [go_sem, ↓reduceIte, reduceCtorEq, Nat.reduceAdd, Nat.reduceSub, Nat.reduceEqDiff, Nat.reduceLeDiff, Nat.reduceBEq]
    refine Ev.bind sg ?_
    simp -implicitDefEqProofs (disch := omega) only [go_sem, ↓reduceIte, reduceCtorEq, Nat.reduceAdd, Nat.reduceSub, Nat.reduceEqDiff, Nat.reduceLeDiff, Nat.reduceBEq]
    exact Ev.ret _
/-! texts -/
theorem hasPrefix_ev (s p : List UInt8) (hs : s.length ≤ 4000000000) (hp : p.length ≤ 4000000000) : Ev (fun k => (lvl tab ext k).call 74 [(.pv (.str (s))), (.pv (.str (p)))]) [(.pv (.bool (decide (s.take p.length = p))))] := by
  by_cases h : p.length ≤ s.length
  · by_cases he : s.take p.length = p
    · have t : (s.take p.length = p) = True := tt he
      refine Ev.call rfl tab74 ?_
      simp -implicitDefEqProofs (disch := omega) only [F74, t, go_sem, ↓reduceIte, reduceCtorEq, Nat.reduceAdd, Nat.reduceSub, Nat.reduceEqDiff, Nat.reduceLeDiff, Nat.reduceBEq]
      exact Ev.ret _
    · have t : (s.take p.length = p) = False := ff he
      refine Ev.call rfl tab74 ?_
      simp -implicitDefEqProofs (disch := omega) only [F74, t, go_sem, ↓reduceIte, reduceCtorEq, Nat.reduceAdd, Nat.reduceSub, Nat.reduceEqDiff, Nat.reduceLeDiff, Nat.reduceBEq]
      exact Ev.ret _
  · have t : (s.take p.length = p) = False := ff (fun e => by have := congrArg List.length e; rw [List.length_take] at this; omega)
    refine Ev.call rfl tab74 ?_
    simp -implicitDefEqProofs (disch := omega) only [F74, t, go_sem, ↓reduceIte, reduceCtorEq, Nat.reduceAdd, Nat.reduceSub, Nat.reduceEqDiff, Nat.reduceLeDiff, Nat.reduceBEq]
    exact Ev.ret _
theorem cutPrefix_ev (s p : List UInt8) (hs : s.length ≤ 4000000000) (hp : p.length ≤ 4000000000) : Ev (fun k => (lvl tab ext k).call 49 [(.pv (.str (s))), (.pv (.str (p)))]) [(.pv (.str (if s.take p.length = p then s.drop p.length else s))), (.pv (.bool (decide (s.take p.length = p))))] := by
  have hpx := hasPrefix_ev s p hs hp
  by_cases he : s.take p.length = p
  · have hl : p.length ≤ s.length := by have := congrArg List.length he; rw [List.length_take] at this; omega
    rw [decide_eq_true he] at hpx ⊢
    rw [if_pos he]
    have td : (s.drop p.length).take (s.length - p.length) = s.drop p.length := by rw [List.take_of_length_le (by rw [List.length_drop]; omega)]
    refine Ev.call rfl tab49 ?_
    simp -implicitDefEqProofs (disch := omega) only [F49, go_sem, ↓reduceIte, reduceCtorEq, Nat.reduceAdd, Nat.reduceSub, Nat.reduceEqDiff, Nat.reduceLeDiff, Nat.reduceBEq]
    refine Ev.bind (?_ : Ev _ [(.pv (.str (s.drop p.length))), (.pv (.bool (true)))]) ?_
    · refine Ev.call rfl tab69 ?_
      simp -implicitDefEqProofs (disch := omega) only [F69, go_sem, ↓reduceIte, reduceCtorEq, Nat.reduceAdd, Nat.reduceSub, Nat.reduceEqDiff, Nat.reduceLeDiff, Nat.reduceBEq]
      refine Ev.bind hpx ?_
      simp -implicitDefEqProofs (disch := omega) only [td, go_sem, ↓reduceIte, reduceCtorEq, Nat.reduceAdd, Nat.reduceSub, Nat.reduceEqDiff, Nat.reduceLeDiff, Nat.reduceBEq]
      exact Ev.ret _
    · simp -implicitDefEqProofs (disch := omega) only [go_sem, ↓reduceIte, reduceCtorEq, Nat.reduceAdd, Nat.reduceSub, Nat.reduceEqDiff, Nat.reduceLeDiff, Nat.reduceBEq]
      exact Ev.ret _
  · rw [decide_eq_false he] at hpx ⊢
    rw [if_neg he]
    refine Ev.call rfl tab49 ?_
    simp -implicitDefEqProofs (disch := omega) only [F49, go_sem, ↓reduceIte, reduceCtorEq, Nat.reduceAdd, Nat.reduceSub, Nat.reduceEqDiff, Nat.reduceLeDiff, Nat.reduceBEq]
    refine Ev.bind (?_ : Ev _ [(.pv (.str (s))), (.pv (.bool (false)))]) ?_
    · refine Ev.call rfl tab69 ?_
      simp -implicitDefEqProofs (disch := omega) only [F69, go_sem, ↓reduceIte, reduceCtorEq, Nat.reduceAdd, Nat.reduceSub, Nat.reduceEqDiff, Nat.reduceLeDiff, Nat.reduceBEq]
      refine Ev.bind hpx ?_
      simp -implicitDefEqProofs (disch := omega) only [go_sem, ↓reduceIte, reduceCtorEq, Nat.reduceAdd, Nat.reduceSub, Nat.reduceEqDiff, Nat.reduceLeDiff, Nat.reduceBEq]
      exact Ev.ret _
    · simp -implicitDefEqProofs (disch := omega) only [go_sem, ↓reduceIte, reduceCtorEq, Nat.reduceAdd, Nat.reduceSub, Nat.reduceEqDiff, Nat.reduceLeDiff, Nat.reduceBEq]
      exact Ev.ret _
theorem minus_eq (s : List UInt8) : minus s = decide (s.take 1 = [45]) := by
  unfold minus
  cases s with
  | nil => rfl
  | cons c t =>
    rw [show List.take 1 (c :: t) = [c] from rfl, List.length_cons, decide_eq_true (Nat.succ_pos _), Bool.and_true]
    show decide (((c.toNat : Nat) : Int) = 45) = decide ([c] = [45])
    by_cases h : c = 45
    · subst h; rfl
    · rw [decide_eq_false (fun e : [c] = [45] => h (List.cons.inj e).1), decide_eq_false (fun e : ((c.toNat : Nat) : Int) = 45 => h (by
        apply UInt8.toNat_inj.1
        show c.toNat = 45
        omega))]
theorem body_eq (s : List UInt8) : body s = if s.take 1 = [45] then s.drop 1 else s := by
  unfold body
  rw [minus_eq]
  by_cases h : s.take 1 = [45]
  · rw [if_pos h, decide_eq_true h, if_pos rfl]
  · rw [if_neg h, decide_eq_false h, if_neg (by decide)]
theorem body_len (s : List UInt8) : (body s).length ≤ s.length := by
  unfold body
  split
  · rw [List.length_drop]; omega
  · exact Nat.le_refl _
theorem parseN_lt (s : List UInt8) : (ofN (parseN s)).length ≤ 200 := by
  unfold parseN
  split
  · rename_i h
    unfold numT
    have := num_len s.length h.2.2.1
    omega
  · rw [ofN_zero]; decide
theorem ofZ_zero : ofZ 0 = .agg [.bool false, .ints .u32 []] := by unfold ofZ; rw [show (0 : Int).natAbs = 0 from rfl, ofN_zero]; rfl
theorem zparse_ev (s : List UInt8) (hs : s.length ≤ 1000000) : Ev (fun k => (lvl tab ext k).call 20 [(.pv (.str (s)))]) [.pv (ofZ (zN s)), (.pv (.int .i64 (zE s)))] := by
  have hc := cutPrefix_ev s [45] (by omega) (by decide)
  rw [show ([45] : List UInt8).length = 1 from rfl, ← body_eq, ← minus_eq] at hc
  have bl := body_len s
  obtain ⟨o, hp⟩ := parse_ev (body s) (by omega)
  have pl := parseN_lt (body s)
  have hn := norm_ev (lim_ofN (parseN (body s))) (by omega)
  have sg := signed_ev (b := minus s) (lim_ofN (parseN (body s))) (by omega)
  rw [val_ofN] at hn
  rw [iv_norm] at sg
  have hE : zE s = if parseE (body s) = 0 then (if minus s = true ∧ parseN (body s) = 0 then 2 else 0) else parseE (body s) := by
    unfold zE parseE parseN
    by_cases h1 : (body s).length ≤ 200
    · by_cases h2 : Good (body s)
      · simp [h1, h2]
      · simp [h1, h2]
    · simp [h1]
  have hV : parseE (body s) = 0 → numT (body s) = parseN (body s) := by
    unfold parseE parseN
    by_cases h1 : (body s).length ≤ 200
    · by_cases h2 : Good (body s)
      · simp [h1, h2]
      · simp [h1, h2]
    · simp [h1]
  by_cases he : parseE (body s) = 0
  · have hV := hV he
    rw [he, if_pos rfl] at hE
    rw [he] at hp
    clear he
    cases hm : minus s
    · have e1 : zE s = 0 := by rw [hE, hm, if_neg (fun h => by cases h.1)]
      have e2 : zN s = (parseN (body s) : Nat) := by unfold zN; rw [e1, hm, hV]; simp
      rw [e1, e2]
      rw [hm] at hc sg
      clear hE hV e1 e2 hm
      generalize parseN (body s) = n at *
      generalize body s = t at *
      have sg : Ev (fun k => (lvl tab ext k).call 40 [(.pv (.bool (false))), (.pv (.ints .u32 (ofN n)))]) [.pv (ofZ (n : Int))] := sg
      unfold ofZ at sg ⊢
      simp -implicitDefEqProofs (disch := omega) only [go_sem, ↓reduceIte, reduceCtorEq, Nat.reduceAdd, Nat.reduceSub, Nat.reduceEqDiff, Nat.reduceLeDiff, Nat.reduceBEq] at sg
      refine Ev.call rfl tab20 ?_
      simp -implicitDefEqProofs (disch := omega) only [F20, go_sem, ↓reduceIte, reduceCtorEq, Nat.reduceAdd, Nat.reduceSub, Nat.reduceEqDiff, Nat.reduceLeDiff, Nat.reduceBEq]
      refine Ev.bind hc ?_
      simp -implicitDefEqProofs (disch := omega) only [go_sem, ↓reduceIte, reduceCtorEq, Nat.reduceAdd, Nat.reduceSub, Nat.reduceEqDiff, Nat.reduceLeDiff, Nat.reduceBEq]
      refine Ev.bind hp ?_
      simp -implicitDefEqProofs (disch := omega) only [go_sem, ↓reduceIte, reduceCtorEq, Nat.reduceAdd, Nat.reduceSub, Nat.reduceEqDiff, Nat.reduceLeDiff, Nat.reduceBEq]
      refine Ev.bind sg ?_
      simp -implicitDefEqProofs (disch := omega) only [go_sem, ↓reduceIte, reduceCtorEq, Nat.reduceAdd, Nat.reduceSub, Nat.reduceEqDiff, Nat.reduceLeDiff, Nat.reduceBEq]
      exact Ev.ret _
    · by_cases h0 : parseN (body s) = 0
      · have e1 : zE s = 2 := by rw [hE, if_pos ⟨hm, h0⟩]
        have e2 : zN s = 0 := by unfold zN; rw [e1, if_neg (by decide)]
        rw [e1, e2, ofZ_zero]
        rw [h0, ofN_zero] at hp hn
        rw [hm] at hc
        clear hE hV e1 e2 hm h0 sg
        generalize body s = t at *
        refine Ev.call rfl tab20 ?_
        simp -implicitDefEqProofs (disch := omega) only [F20, go_sem, ↓reduceIte, reduceCtorEq, Nat.reduceAdd, Nat.reduceSub, Nat.reduceEqDiff, Nat.reduceLeDiff, Nat.reduceBEq]
        refine Ev.bind hc ?_
        simp -implicitDefEqProofs (disch := omega) only [go_sem, ↓reduceIte, reduceCtorEq, Nat.reduceAdd, Nat.reduceSub, Nat.reduceEqDiff, Nat.reduceLeDiff, Nat.reduceBEq]
        refine Ev.bind hp ?_
        simp -implicitDefEqProofs (disch := omega) only [go_sem, ↓reduceIte, reduceCtorEq, Nat.reduceAdd, Nat.reduceSub, Nat.reduceEqDiff, Nat.reduceLeDiff, Nat.reduceBEq]
        refine Ev.bind hn ?_
        simp -implicitDefEqProofs (disch := omega) only [go_sem, ↓reduceIte, reduceCtorEq, Nat.reduceAdd, Nat.reduceSub, Nat.reduceEqDiff, Nat.reduceLeDiff, Nat.reduceBEq]
        exact Ev.ret _
      · have e1 : zE s = 0 := by rw [hE, if_neg (fun h => h0 h.2)]
        have e2 : zN s = -((parseN (body s) : Nat) : Int) := by unfold zN; rw [e1, hm, hV]; simp
        rw [e1, e2]
        rw [hm] at hc sg
        clear hE hV e1 e2 hm
        generalize parseN (body s) = n at *
        generalize body s = t at *
        have sg : Ev (fun k => (lvl tab ext k).call 40 [(.pv (.bool (true))), (.pv (.ints .u32 (ofN n)))]) [.pv (ofZ (-(n : Int)))] := sg
        have hpos := ofN_length_pos.2 (Nat.pos_of_ne_zero h0)
        unfold ofZ at sg ⊢
        simp -implicitDefEqProofs (disch := omega) only [go_sem, ↓reduceIte, reduceCtorEq, Nat.reduceAdd, Nat.reduceSub, Nat.reduceEqDiff, Nat.reduceLeDiff, Nat.reduceBEq] at sg
        refine Ev.call rfl tab20 ?_
        simp -implicitDefEqProofs (disch := omega) only [F20, go_sem, ↓reduceIte, reduceCtorEq, Nat.reduceAdd, Nat.reduceSub, Nat.reduceEqDiff, Nat.reduceLeDiff, Nat.reduceBEq]
        refine Ev.bind hc ?_
        simp -implicitDefEqProofs (disch := omega) only [go_sem, ↓reduceIte, reduceCtorEq, Nat.reduceAdd, Nat.reduceSub, Nat.reduceEqDiff, Nat.reduceLeDiff, Nat.reduceBEq]
        refine Ev.bind hp ?_
        simp -implicitDefEqProofs (disch := omega) only [go_sem, ↓reduceIte, reduceCtorEq, Nat.reduceAdd, Nat.reduceSub, Nat.reduceEqDiff, Nat.reduceLeDiff, Nat.reduceBEq]
        refine Ev.bind hn ?_
        simp -implicitDefEqProofs (disch := omega) only [go_sem, ↓reduceIte, reduceCtorEq, Nat.reduceAdd, Nat.reduceSub, Nat.reduceEqDiff, Nat.reduceLeDiff, Nat.reduceBEq]
        refine Ev.bind sg ?_
        simp -implicitDefEqProofs (disch := omega) only [go_sem, ↓reduceIte, reduceCtorEq, Nat.reduceAdd, Nat.reduceSub, Nat.reduceEqDiff, Nat.reduceLeDiff, Nat.reduceBEq]
        exact Ev.ret _
  · have e1 : zE s = parseE (body s) := by rw [hE, if_neg he]
    have e2 : zN s = 0 := by unfold zN; rw [e1, if_neg he]
    rw [e1, e2, ofZ_zero]
    generalize parseE (body s) = E at *
    clear hV hE e1 e2
    refine Ev.call rfl tab20 ?_
    simp -implicitDefEqProofs (disch := omega) only [F20, go_sem, ↓reduceIte, reduceCtorEq, Nat.reduceAdd, Nat.reduceSub, Nat.reduceEqDiff, Nat.reduceLeDiff, Nat.reduceBEq]
    refine Ev.bind hc ?_
    simp -implicitDefEqProofs (disch := omega) only [go_sem, ↓reduceIte, reduceCtorEq, Nat.reduceAdd, Nat.reduceSub, Nat.reduceEqDiff, Nat.reduceLeDiff, Nat.reduceBEq]
    refine Ev.bind hp ?_
    simp -implicitDefEqProofs (disch := omega) only [go_sem, ↓reduceIte, reduceCtorEq, Nat.reduceAdd, Nat.reduceSub, Nat.reduceEqDiff, Nat.reduceLeDiff, Nat.reduceBEq]
    exact Ev.ret _
end Go.Proofs.Ytkeipmkiilimeaa.V
