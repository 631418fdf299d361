/- What the integer functions of the program come to: signed, Of, Norm, sign, Cmp, Neg, Add, Sub, Mul.
What the integer functions of the program come to: DivMod, Small.
What the integer functions of the program come to: Small, Text, Parse.
What the integer functions of the program come to: Text, Parse.
What the reference's integer functions come to: Of, make1, Norm, Cmp, Neg, Add, Sub, Mul, Same, Short.
What the reference's integer functions come to: DivMod, Small, Text, Parse. -/
import Derived.Test.YtnmehcoigcjmlaaKE
import Derived.Test.YtnmehcoigcjmlaaKC
import Derived.Test.YtnmehcoigcjmlaaKF

set_option linter.unusedSimpArgs false
set_option linter.unusedVariables false
namespace Go.Proofs.Ytnmehcoigcjmlaa.V
open Go Go.Proofs.Ytnmehcoigcjmlaa.M
theorem signed_ev {b : Bool} {l : List Int} (hl : Lim l) (hs : l.length ≤ 1000000000) : Ev (fun k => (lvl tab ext k).call 72 [(.pv (.bool (b))), (.pv (.ints .u32 (l)))]) [.pv (ofZ (iv b l))] := by
  rw [ofZ_iv]
  have h1 := len_val_le hl
  refine Ev.call rfl tab72 ?_
  simp -implicitDefEqProofs (disch := omega) only [F72, go_sem, ↓reduceIte, reduceCtorEq, Nat.reduceAdd, Nat.reduceSub, Nat.reduceEqDiff, Nat.reduceLeDiff, Nat.reduceBEq]
  refine Ev.bind (norm_ev hl hs) ?_
  by_cases hz : 0 < (ofN (val l)).length
  · cases b
    · simp -implicitDefEqProofs (disch := omega) only [go_sem, ↓reduceIte, reduceCtorEq, Nat.reduceAdd, Nat.reduceSub, Nat.reduceEqDiff, Nat.reduceLeDiff, Nat.reduceBEq]
      exact Ev.ret _
    · simp -implicitDefEqProofs (disch := omega) only [go_sem, ↓reduceIte, reduceCtorEq, Nat.reduceAdd, Nat.reduceSub, Nat.reduceEqDiff, Nat.reduceLeDiff, Nat.reduceBEq]
      exact Ev.ret _
  · cases b
    · simp -implicitDefEqProofs (disch := omega) only [go_sem, ↓reduceIte, reduceCtorEq, Nat.reduceAdd, Nat.reduceSub, Nat.reduceEqDiff, Nat.reduceLeDiff, Nat.reduceBEq]
      exact Ev.ret _
    · simp -implicitDefEqProofs (disch := omega) only [go_sem, ↓reduceIte, reduceCtorEq, Nat.reduceAdd, Nat.reduceSub, Nat.reduceEqDiff, Nat.reduceLeDiff, Nat.reduceBEq]
      exact Ev.ret _
theorem not_u64 {n : Int} (h0 : 0 ≤ n) (h1 : n < 18446744073709551616) : notI .u64 n = 18446744073709551615 - n := by
  obtain ⟨m, rfl⟩ := Int.eq_ofNat_of_zero_le h0
  have hm : m < 2 ^ 64 := by have : (m : Int) < 18446744073709551616 := h1; omega
  unfold notI
  have e : (BitVec.ofInt (IntKind.bits .u64) (if IntKind.signed .u64 = true then -1 else IntKind.max .u64) ^^^ BitVec.ofInt (IntKind.bits .u64) (m : Int)) = ~~~ (BitVec.ofNat 64 m) := by
    show (BitVec.ofInt 64 18446744073709551615) ^^^ (BitVec.ofInt 64 (m : Int)) = _
    rw [BitVec.ofInt_natCast, show BitVec.ofInt 64 18446744073709551615 = BitVec.allOnes 64 from rfl, BitVec.allOnes_xor]
  have e2 : (~~~ (BitVec.ofNat 64 m)).toNat = 18446744073709551615 - m := by
    rw [BitVec.toNat_not, BitVec.toNat_ofNat, Nat.mod_eq_of_lt hm]
  rw [e]
  show IntKind.u64.wrap (((~~~ (BitVec.ofNat 64 m)).toNat : Nat) : Int) = _
  rw [e2, u64 (by omega) (by omega)]
  omega
theorem zof_ev {n : Int} (h0 : -9223372036854775808 ≤ n) (h1 : n < 9223372036854775808) : Ev (fun k => (lvl tab ext k).call 45 [(.pv (.int .i64 (n)))]) [.pv (ofZ n)] := by
  by_cases h : n < 0
  · have e1 : n % 18446744073709551616 = n + 18446744073709551616 := by omega
    have e2 := not_u64 (n := n + 18446744073709551616) (by omega) (by omega)
    have ho := of_ev (a := -n) (by omega) (by omega)
    have sg := signed_ev (b := true) (lim_ofN (-n).toNat) (by have := len_u64 (n := (-n).toNat) (by omega); omega)
    rw [iv_norm, if_pos rfl, show -(((-n).toNat : Nat) : Int) = n from by omega] at sg
    have e3 : (18446744073709551615 - (n + 18446744073709551616) + 1) = -n := by omega
    refine Ev.call rfl tab45 ?_
    simp -implicitDefEqProofs (disch := omega) only [F45, e1, e2, e3, go_sem, ↓reduceIte, reduceCtorEq, Nat.reduceAdd, Nat.reduceSub, Nat.reduceEqDiff, Nat.reduceLeDiff, Nat.reduceBEq]
    refine Ev.bind ho ?_
    simp -implicitDefEqProofs (disch := omega) only [go_sem, ↓reduceIte, reduceCtorEq, Nat.reduceAdd, Nat.reduceSub, Nat.reduceEqDiff, Nat.reduceLeDiff, Nat.reduceBEq]
    refine Ev.bind sg ?_
    unfold ofZ
    simp -implicitDefEqProofs (disch := omega) only [go_sem, ↓reduceIte, reduceCtorEq, Nat.reduceAdd, Nat.reduceSub, Nat.reduceEqDiff, Nat.reduceLeDiff, Nat.reduceBEq]
    exact Ev.ret _
  · have ho := of_ev (a := n) (by omega) (by omega)
    have sg := signed_ev (b := false) (lim_ofN n.toNat) (by have := len_u64 (n := n.toNat) (by omega); omega)
    rw [iv_norm, if_neg (by decide), show ((n.toNat : Nat) : Int) = n from by omega] at sg
    refine Ev.call rfl tab45 ?_
    simp -implicitDefEqProofs (disch := omega) only [F45, go_sem, ↓reduceIte, reduceCtorEq, Nat.reduceAdd, Nat.reduceSub, Nat.reduceEqDiff, Nat.reduceLeDiff, Nat.reduceBEq]
    refine Ev.bind ho ?_
    simp -implicitDefEqProofs (disch := omega) only [go_sem, ↓reduceIte, reduceCtorEq, Nat.reduceAdd, Nat.reduceSub, Nat.reduceEqDiff, Nat.reduceLeDiff, Nat.reduceBEq]
    refine Ev.bind sg ?_
    unfold ofZ
    simp -implicitDefEqProofs (disch := omega) only [go_sem, ↓reduceIte, reduceCtorEq, Nat.reduceAdd, Nat.reduceSub, Nat.reduceEqDiff, Nat.reduceLeDiff, Nat.reduceBEq]
    exact Ev.ret _
theorem znorm_ev {p : PV} {x : Int} (h : IsZ p x) : Ev (fun k => (lvl tab ext k).call 58 [.pv p]) [.pv (ofZ x)] := by
  obtain ⟨b, l, rfl, hl, hs, rfl⟩ := h
  refine Ev.call rfl tab58 ?_
  simp -implicitDefEqProofs (disch := omega) only [F58, go_sem, ↓reduceIte, reduceCtorEq, Nat.reduceAdd, Nat.reduceSub, Nat.reduceEqDiff, Nat.reduceLeDiff, Nat.reduceBEq]
  refine Ev.bind (signed_ev hl (by omega)) ?_
  unfold ofZ
  simp -implicitDefEqProofs (disch := omega) only [go_sem, ↓reduceIte, reduceCtorEq, Nat.reduceAdd, Nat.reduceSub, Nat.reduceEqDiff, Nat.reduceLeDiff, Nat.reduceBEq]
  exact Ev.ret _
theorem zneg_ev {p : PV} {x : Int} (h : IsZ p x) : Ev (fun k => (lvl tab ext k).call 44 [.pv p]) [.pv (ofZ (-x))] := by
  obtain ⟨b, l, rfl, hl, hs, rfl⟩ := h
  have e : iv (!b) l = -iv b l := by cases b <;> simp [iv]
  have sg := signed_ev (b := !b) hl (by omega)
  rw [e] at sg
  refine Ev.call rfl tab44 ?_
  simp -implicitDefEqProofs (disch := omega) only [F44, go_sem, ↓reduceIte, reduceCtorEq, Nat.reduceAdd, Nat.reduceSub, Nat.reduceEqDiff, Nat.reduceLeDiff, Nat.reduceBEq]
  refine Ev.bind sg ?_
  unfold ofZ
  simp -implicitDefEqProofs (disch := omega) only [go_sem, ↓reduceIte, reduceCtorEq, Nat.reduceAdd, Nat.reduceSub, Nat.reduceEqDiff, Nat.reduceLeDiff, Nat.reduceBEq]
  exact Ev.ret _
theorem zsign_ev {p : PV} {x : Int} (h : IsZ p x) : Ev (fun k => (lvl tab ext k).call 71 [.pv p]) [(.pv (.int .i64 (isgn x)))] := by
  obtain ⟨b, l, rfl, hl, hs, rfl⟩ := h
  unfold isgn
  refine Ev.call rfl tab71 ?_
  simp -implicitDefEqProofs (disch := omega) only [F71, go_sem, ↓reduceIte, reduceCtorEq, Nat.reduceAdd, Nat.reduceSub, Nat.reduceEqDiff, Nat.reduceLeDiff, Nat.reduceBEq]
  refine Ev.bind (norm_ev hl (by omega)) ?_
  by_cases h0 : val l = 0
  · have e : iv b l = 0 := by cases b <;> simp [iv, h0]
    rw [e, icmp_eq, h0, ofN_zero]
    simp -implicitDefEqProofs (disch := omega) only [go_sem, ↓reduceIte, reduceCtorEq, Nat.reduceAdd, Nat.reduceSub, Nat.reduceEqDiff, Nat.reduceLeDiff, Nat.reduceBEq]
    exact Ev.ret _
  · have hp := ofN_length_pos.2 (Nat.pos_of_ne_zero h0)
    cases b
    · rw [icmp_gt (show 0 < iv false l by rw [iv_false]; omega)]
      simp -implicitDefEqProofs (disch := omega) only [go_sem, ↓reduceIte, reduceCtorEq, Nat.reduceAdd, Nat.reduceSub, Nat.reduceEqDiff, Nat.reduceLeDiff, Nat.reduceBEq]
      exact Ev.ret _
    · rw [icmp_lt (show iv true l < 0 by rw [iv_true]; omega)]
      simp -implicitDefEqProofs (disch := omega) only [go_sem, ↓reduceIte, reduceCtorEq, Nat.reduceAdd, Nat.reduceSub, Nat.reduceEqDiff, Nat.reduceLeDiff, Nat.reduceBEq]
      exact Ev.ret _
theorem zcmp_ev {p q : PV} {x y : Int} (hp : IsZ p x) (hq : IsZ q y) : Ev (fun k => (lvl tab ext k).call 41 [.pv p, .pv q]) [(.pv (.int .i64 (icmp x y)))] := by
  have s1 := zsign_ev hp
  have s2 := zsign_ev hq
  obtain ⟨b, l, rfl, hl, hs, rfl⟩ := hp
  obtain ⟨c, m, rfl, hm, hs2, rfl⟩ := hq
  have r1 := icmp_range (iv b l) 0
  have r2 := icmp_range (iv c m) 0
  have hc := cmp_ev hl hm (by omega) (by omega)
  refine Ev.call rfl tab41 ?_
  simp -implicitDefEqProofs (disch := omega) only [F41, go_sem, ↓reduceIte, reduceCtorEq, Nat.reduceAdd, Nat.reduceSub, Nat.reduceEqDiff, Nat.reduceLeDiff, Nat.reduceBEq]
  refine Ev.bind s1 ?_
  simp -implicitDefEqProofs (disch := omega) only [go_sem, ↓reduceIte, reduceCtorEq, Nat.reduceAdd, Nat.reduceSub, Nat.reduceEqDiff, Nat.reduceLeDiff, Nat.reduceBEq]
  refine Ev.bind s2 ?_
  unfold isgn
  by_cases he : icmp (iv b l) 0 = icmp (iv c m) 0
  · have key := sgn_cmp (iv_or b l) (iv_or c m) he
    have rg := cmp_range (val l) (val m)
    have rk := icmp_range (iv b l) (iv c m)
    rw [← key] at rk
    rw [← key]
    generalize icmp (iv b l) 0 = i1 at *
    generalize icmp (iv c m) 0 = i2 at *
    generalize hg : cmp (val l) (val m) = g at *
    generalize hk : i2 * g = k2 at *
    simp -implicitDefEqProofs (disch := omega) only [he, go_sem, ↓reduceIte, reduceCtorEq, Nat.reduceAdd, Nat.reduceSub, Nat.reduceEqDiff, Nat.reduceLeDiff, Nat.reduceBEq]
    refine Ev.bind hc ?_
    simp -implicitDefEqProofs (disch := omega) only [hk, go_sem, ↓reduceIte, reduceCtorEq, Nat.reduceAdd, Nat.reduceSub, Nat.reduceEqDiff, Nat.reduceLeDiff, Nat.reduceBEq]
    exact Ev.ret _
  · by_cases hlt : icmp (iv b l) 0 < icmp (iv c m) 0
    · have : iv b l < iv c m := by
        unfold icmp at hlt
        revert hlt
        repeat' split
        all_goals omega
      rw [icmp_lt this]
      clear this
      simp -implicitDefEqProofs (disch := omega) only [go_sem, ↓reduceIte, reduceCtorEq, Nat.reduceAdd, Nat.reduceSub, Nat.reduceEqDiff, Nat.reduceLeDiff, Nat.reduceBEq]
      exact Ev.ret _
    · have : iv c m < iv b l := by
        unfold icmp at hlt he
        revert hlt he
        repeat' split
        all_goals omega
      rw [icmp_gt this]
      clear this
      simp -implicitDefEqProofs (disch := omega) only [go_sem, ↓reduceIte, reduceCtorEq, Nat.reduceAdd, Nat.reduceSub, Nat.reduceEqDiff, Nat.reduceLeDiff, Nat.reduceBEq]
      exact Ev.ret _
theorem zadd_ev {p q : PV} {x y : Int} (hp : IsZ p x) (hq : IsZ q y) : Ev (fun k => (lvl tab ext k).call 50 [.pv p, .pv q]) [.pv (ofZ (x + y))] := by
  obtain ⟨b, l, rfl, hl, hs, rfl⟩ := hp
  obtain ⟨c, m, rfl, hm, hs2, rfl⟩ := hq
  have hA := add_ev hl hm (by omega) (by omega)
  have hC := cmp_ev hl hm (by omega) (by omega)
  have hS1 := sub_ev hl hm (by omega) (by omega)
  have hS2 := sub_ev hm hl (by omega) (by omega)
  have l1 := len_val_le hl
  have l2 := len_val_le hm
  have l3 := len_add (val l) (val m)
  by_cases hbc : b = c
  · subst hbc
    have sg := signed_ev (b := b) (lim_ofN (val l + val m)) (by omega)
    rw [iv_norm, show (if b = true then -((val l + val m : Nat) : Int) else ((val l + val m : Nat) : Int)) = iv b l + iv b m from by cases b <;> simp [iv] <;> omega] at sg
    have ht : (b = b) = True := eq_self b
    refine Ev.call rfl tab50 ?_
    simp -implicitDefEqProofs (disch := omega) only [F50, go_sem, ↓reduceIte, reduceCtorEq, Nat.reduceAdd, Nat.reduceSub, Nat.reduceEqDiff, Nat.reduceLeDiff, Nat.reduceBEq]
    refine Ev.bind hA ?_
    simp -implicitDefEqProofs (disch := omega) only [go_sem, ↓reduceIte, reduceCtorEq, Nat.reduceAdd, Nat.reduceSub, Nat.reduceEqDiff, Nat.reduceLeDiff, Nat.reduceBEq]
    refine Ev.bind sg ?_
    unfold ofZ
    simp -implicitDefEqProofs (disch := omega) only [go_sem, ↓reduceIte, reduceCtorEq, Nat.reduceAdd, Nat.reduceSub, Nat.reduceEqDiff, Nat.reduceLeDiff, Nat.reduceBEq]
    exact Ev.ret _
  · have hf : (b = c) = False := ff hbc
    by_cases hlt : val l < val m
    · have hcm := cmp_neg.2 hlt
      have sg := signed_ev (b := c) (lim_ofN (val m - val l)) (by have := len_mono (Nat.sub_le (val m) (val l)); omega)
      rw [iv_norm, show (if c = true then -((val m - val l : Nat) : Int) else ((val m - val l : Nat) : Int)) = iv b l + iv c m from by cases b <;> cases c <;> simp [iv] at * <;> omega] at sg
      refine Ev.call rfl tab50 ?_
      simp -implicitDefEqProofs (disch := omega) only [F50, hf, go_sem, ↓reduceIte, reduceCtorEq, Nat.reduceAdd, Nat.reduceSub, Nat.reduceEqDiff, Nat.reduceLeDiff, Nat.reduceBEq]
      refine Ev.bind hC ?_
      simp -implicitDefEqProofs (disch := omega) only [go_sem, ↓reduceIte, reduceCtorEq, Nat.reduceAdd, Nat.reduceSub, Nat.reduceEqDiff, Nat.reduceLeDiff, Nat.reduceBEq]
      refine Ev.bind hS2 ?_
      simp -implicitDefEqProofs (disch := omega) only [go_sem, ↓reduceIte, reduceCtorEq, Nat.reduceAdd, Nat.reduceSub, Nat.reduceEqDiff, Nat.reduceLeDiff, Nat.reduceBEq]
      refine Ev.bind sg ?_
      unfold ofZ
      simp -implicitDefEqProofs (disch := omega) only [go_sem, ↓reduceIte, reduceCtorEq, Nat.reduceAdd, Nat.reduceSub, Nat.reduceEqDiff, Nat.reduceLeDiff, Nat.reduceBEq]
      exact Ev.ret _
    · have hcm : 0 ≤ cmp (val l) (val m) := cmp_nonneg.2 (by omega)
      have sg := signed_ev (b := b) (lim_ofN (val l - val m)) (by have := len_mono (Nat.sub_le (val l) (val m)); omega)
      rw [iv_norm, show (if b = true then -((val l - val m : Nat) : Int) else ((val l - val m : Nat) : Int)) = iv b l + iv c m from by cases b <;> cases c <;> simp [iv] at * <;> omega] at sg
      refine Ev.call rfl tab50 ?_
      simp -implicitDefEqProofs (disch := omega) only [F50, hf, go_sem, ↓reduceIte, reduceCtorEq, Nat.reduceAdd, Nat.reduceSub, Nat.reduceEqDiff, Nat.reduceLeDiff, Nat.reduceBEq]
      refine Ev.bind hC ?_
      simp -implicitDefEqProofs (disch := omega) only [go_sem, ↓reduceIte, reduceCtorEq, Nat.reduceAdd, Nat.reduceSub, Nat.reduceEqDiff, Nat.reduceLeDiff, Nat.reduceBEq]
      refine Ev.bind hS1 ?_
      simp -implicitDefEqProofs (disch := omega) only [go_sem, ↓reduceIte, reduceCtorEq, Nat.reduceAdd, Nat.reduceSub, Nat.reduceEqDiff, Nat.reduceLeDiff, Nat.reduceBEq]
      refine Ev.bind sg ?_
      unfold ofZ
      simp -implicitDefEqProofs (disch := omega) only [go_sem, ↓reduceIte, reduceCtorEq, Nat.reduceAdd, Nat.reduceSub, Nat.reduceEqDiff, Nat.reduceLeDiff, Nat.reduceBEq]
      exact Ev.ret _
theorem zsub_ev {p q : PV} {x y : Int} (hp : IsZ p x) (hq : IsZ q y) (hy : Sz 1000000 y) : Ev (fun k => (lvl tab ext k).call 87 [.pv p, .pv q]) [.pv (ofZ (x - y))] := by
  have n := zneg_ev hq
  have a := zadd_ev hp (isZ_of (sz_neg hy))
  rw [← Int.sub_eq_add_neg] at a
  obtain ⟨b, l, rfl, hl, hs, rfl⟩ := hp
  obtain ⟨c, m, rfl, hm, hs2, rfl⟩ := hq
  refine Ev.call rfl tab87 ?_
  simp -implicitDefEqProofs (disch := omega) only [F87, go_sem, ↓reduceIte, reduceCtorEq, Nat.reduceAdd, Nat.reduceSub, Nat.reduceEqDiff, Nat.reduceLeDiff, Nat.reduceBEq]
  refine Ev.bind n ?_
  unfold ofZ at a ⊢
  simp -implicitDefEqProofs (disch := omega) only [go_sem, ↓reduceIte, reduceCtorEq, Nat.reduceAdd, Nat.reduceSub, Nat.reduceEqDiff, Nat.reduceLeDiff, Nat.reduceBEq]
  refine Ev.bind a ?_
  simp -implicitDefEqProofs (disch := omega) only [go_sem, ↓reduceIte, reduceCtorEq, Nat.reduceAdd, Nat.reduceSub, Nat.reduceEqDiff, Nat.reduceLeDiff, Nat.reduceBEq]
  exact Ev.ret _
theorem zmul_ev {p q : PV} {x y : Int} (hp : IsZ p x) (hq : IsZ q y) : Ev (fun k => (lvl tab ext k).call 42 [.pv p, .pv q]) [.pv (ofZ (x * y))] := by
  obtain ⟨b, l, rfl, hl, hs, rfl⟩ := hp
  obtain ⟨c, m, rfl, hm, hs2, rfl⟩ := hq
  have hM := mul_ev hl hm (by omega)
  have l1 := len_val_le hl
  have l2 := len_val_le hm
  have l3 := len_mul (val l) (val m)
  have sg := signed_ev (b := decide (¬ b = c)) (lim_ofN (val l * val m)) (by omega)
  rw [iv_norm, show (if decide (¬ b = c) = true then -((val l * val m : Nat) : Int) else ((val l * val m : Nat) : Int)) = iv b l * iv c m from by cases b <;> cases c <;> simp [iv, Int.neg_mul, Int.mul_neg]] at sg
  refine Ev.call rfl tab42 ?_
  simp -implicitDefEqProofs (disch := omega) only [F42, go_sem, ↓reduceIte, reduceCtorEq, Nat.reduceAdd, Nat.reduceSub, Nat.reduceEqDiff, Nat.reduceLeDiff, Nat.reduceBEq]
  refine Ev.bind hM ?_
  simp -implicitDefEqProofs (disch := omega) only [go_sem, ↓reduceIte, reduceCtorEq, Nat.reduceAdd, Nat.reduceSub, Nat.reduceEqDiff, Nat.reduceLeDiff, Nat.reduceBEq]
  refine Ev.bind sg ?_
  unfold ofZ
  simp -implicitDefEqProofs (disch := omega) only [go_sem, ↓reduceIte, reduceCtorEq, Nat.reduceAdd, Nat.reduceSub, Nat.reduceEqDiff, Nat.reduceLeDiff, Nat.reduceBEq]
  exact Ev.ret _
end Go.Proofs.Ytnmehcoigcjmlaa.V
set_option linter.unusedSimpArgs false
set_option linter.unusedVariables false
namespace Go.Proofs.Ytnmehcoigcjmlaa.V
open Go Go.Proofs.Ytnmehcoigcjmlaa.M
theorem zdm0_ev {p q : PV} {x : Int} (hp : IsZ p x) (hq : IsZ q 0) : Ev (fun k => (lvl tab ext k).call 64 [.pv p, .pv q]) [.pv (ofZ 0), .pv (ofZ 0), (.pv (.bool (false)))] := by
  obtain ⟨b, l, rfl, hl, hs, rfl⟩ := hp
  obtain ⟨c, m, rfl, hm, hs2, he⟩ := hq
  have h0 : val m = 0 := by have := iv_or c m; omega
  have hd := divmod0_ev hl hm (by omega) (by omega) h0
  have e : ofZ 0 = .agg [.bool false, .ints .u32 []] := by unfold ofZ; rw [show (0 : Int).natAbs = 0 from rfl, ofN_zero]; rfl
  rw [e]
  refine Ev.call rfl tab64 ?_
  simp -implicitDefEqProofs (disch := omega) only [F64, go_sem, ↓reduceIte, reduceCtorEq, Nat.reduceAdd, Nat.reduceSub, Nat.reduceEqDiff, Nat.reduceLeDiff, Nat.reduceBEq]
  refine Ev.bind hd ?_
  simp -implicitDefEqProofs (disch := omega) only [go_sem, ↓reduceIte, reduceCtorEq, Nat.reduceAdd, Nat.reduceSub, Nat.reduceEqDiff, Nat.reduceLeDiff, Nat.reduceBEq]
  exact Ev.ret _
theorem zdivmod_ev {p q : PV} {x y : Int} (hp : IsZ p x) (hq : IsZ q y) (hy : y ≠ 0) : Ev (fun k => (lvl tab ext k).call 64 [.pv p, .pv q]) [.pv (ofZ (x / y)), .pv (ofZ (x % y)), (.pv (.bool (true)))] := by
  obtain ⟨b, l, rfl, hl, hs, rfl⟩ := hp
  obtain ⟨c, m, rfl, hm, hs2, rfl⟩ := hq
  have hv0 : val m ≠ 0 := by intro h; apply hy; have := iv_or c m; omega
  obtain ⟨o, hd⟩ := divmod_ev hl hm (by omega) (by omega) hv0
  have l1 := len_val_le hl
  have l2 := len_val_le hm
  have l3 := len_mono (Nat.div_le_self (val l) (val m))
  have l4 := len_mono (Nat.le_of_lt (Nat.mod_lt (val l) (Nat.pos_of_ne_zero hv0)))
  have s1 := signed_ev (b := decide (¬ b = c)) (lim_ofN (val l / val m)) (by omega)
  have s2 := signed_ev (b := b) (lim_ofN (val l % val m)) (by omega)
  have s3 := signed_ev (b := false) hm (by omega)
  have hdm := Nat.div_add_mod (val l) (val m)
  have hlt := Nat.mod_lt (val l) (Nat.pos_of_ne_zero hv0)
  have ez : (0 : Int) + 1 = 1 := rfl
  generalize hQ : val l / val m = Q at *
  generalize hR : val l % val m = R at *
  have hx : iv b l = if b = true then -((val m : Int) * (Q : Int) + (R : Int)) else (val m : Int) * (Q : Int) + (R : Int) := by
    have : ((val l : Nat) : Int) = (val m : Int) * (Q : Int) + (R : Int) := by rw [← hdm]; simp
    unfold iv
    rw [this]
  rw [iv_norm] at s1 s2
  by_cases hr : b = true ∧ R ≠ 0
  · obtain ⟨rfl, hR0⟩ := hr
    have key : iv true l / iv c m = (if c = true then (Q : Int) + 1 else -(Q : Int) - 1) ∧ iv true l % iv c m = (val m : Int) - (R : Int) := by
      refine zdm hy ?_ (by omega) (by rw [iv_abs]; omega)
      rw [hx]
      cases c
      · rw [iv_false, if_neg (by decide), if_pos rfl, Int.mul_sub, Int.mul_neg]; omega
      · rw [iv_true, if_pos rfl, if_pos rfl, Int.neg_mul, Int.mul_add]; omega
    rw [key.1, key.2]
    have sR : Sz 1000000 (-(R : Int)) := by apply sz_neg; unfold Sz; show (ofN R).length ≤ _; omega
    have sm : Sz 1000000 ((val m : Nat) : Int) := by unfold Sz; show (ofN (val m)).length ≤ _; omega
    have a1 := zadd_ev (isZ_of sR) (isZ_of sm)
    have o1 := zof_ev (n := 1) (by decide) (by decide)
    have s1' : Sz 1000000 1 := sz_mono (sz_int (by decide) (by decide)) (by decide)
    rw [if_pos rfl] at s2
    rw [iv_false] at s3
    rw [show -(R : Int) + (val m : Int) = (val m : Int) - (R : Int) from by omega] at a1
    have hb1 : decide (-(R : Int) < 0) = true := decide_eq_true (by omega)
    clear key hx hdm hQ hR
    cases c
    · have a2 := zsub_ev (isZ_of (z := -(Q : Int)) (by apply sz_neg; unfold Sz; show (ofN Q).length ≤ _; omega)) (isZ_of s1') s1'
      have e1 : decide (¬ true = false) = true := rfl
      rw [e1, if_pos rfl] at s1
      rw [if_neg (by decide)]
      unfold ofZ at s1 s2 s3 a1 a2 o1 ⊢
      simp -implicitDefEqProofs (disch := omega) only [go_sem, ↓reduceIte, reduceCtorEq, Nat.reduceAdd, Nat.reduceSub, Nat.reduceEqDiff, Nat.reduceLeDiff, Nat.reduceBEq] at s1 s2 s3 a1 a2 o1
      refine Ev.call rfl tab64 ?_
      simp -implicitDefEqProofs (disch := omega) only [F64, go_sem, ↓reduceIte, reduceCtorEq, Nat.reduceAdd, Nat.reduceSub, Nat.reduceEqDiff, Nat.reduceLeDiff, Nat.reduceBEq]
      refine Ev.bind hd ?_
      simp -implicitDefEqProofs (disch := omega) only [e1, go_sem, ↓reduceIte, reduceCtorEq, Nat.reduceAdd, Nat.reduceSub, Nat.reduceEqDiff, Nat.reduceLeDiff, Nat.reduceBEq]
      refine Ev.bind s1 ?_
      simp -implicitDefEqProofs (disch := omega) only [go_sem, ↓reduceIte, reduceCtorEq, Nat.reduceAdd, Nat.reduceSub, Nat.reduceEqDiff, Nat.reduceLeDiff, Nat.reduceBEq]
      refine Ev.bind s2 ?_
      simp -implicitDefEqProofs (disch := omega) only [go_sem, ↓reduceIte, reduceCtorEq, Nat.reduceAdd, Nat.reduceSub, Nat.reduceEqDiff, Nat.reduceLeDiff, Nat.reduceBEq]
      refine Ev.bind s3 ?_
      simp -implicitDefEqProofs (disch := omega) only [go_sem, ↓reduceIte, reduceCtorEq, Nat.reduceAdd, Nat.reduceSub, Nat.reduceEqDiff, Nat.reduceLeDiff, Nat.reduceBEq]
      refine Ev.bind a1 ?_
      simp -implicitDefEqProofs (disch := omega) only [go_sem, ↓reduceIte, reduceCtorEq, Nat.reduceAdd, Nat.reduceSub, Nat.reduceEqDiff, Nat.reduceLeDiff, Nat.reduceBEq]
      refine Ev.bind o1 ?_
      simp -implicitDefEqProofs (disch := omega) only [go_sem, ↓reduceIte, reduceCtorEq, Nat.reduceAdd, Nat.reduceSub, Nat.reduceEqDiff, Nat.reduceLeDiff, Nat.reduceBEq]
      refine Ev.bind a2 ?_
      simp -implicitDefEqProofs (disch := omega) only [go_sem, ↓reduceIte, reduceCtorEq, Nat.reduceAdd, Nat.reduceSub, Nat.reduceEqDiff, Nat.reduceLeDiff, Nat.reduceBEq]
      exact Ev.ret _
    · have a2 := zadd_ev (isZ_of (z := (Q : Int)) (by unfold Sz; show (ofN Q).length ≤ _; omega)) (isZ_of s1')
      have e1 : decide (¬ true = true) = false := rfl
      rw [e1, if_neg (by decide)] at s1
      rw [if_pos rfl]
      unfold ofZ at s1 s2 s3 a1 a2 o1 ⊢
      simp -implicitDefEqProofs (disch := omega) only [go_sem, ↓reduceIte, reduceCtorEq, Nat.reduceAdd, Nat.reduceSub, Nat.reduceEqDiff, Nat.reduceLeDiff, Nat.reduceBEq] at s1 s2 s3 a1 a2 o1
      refine Ev.call rfl tab64 ?_
      simp -implicitDefEqProofs (disch := omega) only [F64, go_sem, ↓reduceIte, reduceCtorEq, Nat.reduceAdd, Nat.reduceSub, Nat.reduceEqDiff, Nat.reduceLeDiff, Nat.reduceBEq]
      refine Ev.bind hd ?_
      simp -implicitDefEqProofs (disch := omega) only [e1, go_sem, ↓reduceIte, reduceCtorEq, Nat.reduceAdd, Nat.reduceSub, Nat.reduceEqDiff, Nat.reduceLeDiff, Nat.reduceBEq]
      refine Ev.bind s1 ?_
      simp -implicitDefEqProofs (disch := omega) only [go_sem, ↓reduceIte, reduceCtorEq, Nat.reduceAdd, Nat.reduceSub, Nat.reduceEqDiff, Nat.reduceLeDiff, Nat.reduceBEq]
      refine Ev.bind s2 ?_
      simp -implicitDefEqProofs (disch := omega) only [go_sem, ↓reduceIte, reduceCtorEq, Nat.reduceAdd, Nat.reduceSub, Nat.reduceEqDiff, Nat.reduceLeDiff, Nat.reduceBEq]
      refine Ev.bind s3 ?_
      simp -implicitDefEqProofs (disch := omega) only [go_sem, ↓reduceIte, reduceCtorEq, Nat.reduceAdd, Nat.reduceSub, Nat.reduceEqDiff, Nat.reduceLeDiff, Nat.reduceBEq]
      refine Ev.bind a1 ?_
      simp -implicitDefEqProofs (disch := omega) only [go_sem, ↓reduceIte, reduceCtorEq, Nat.reduceAdd, Nat.reduceSub, Nat.reduceEqDiff, Nat.reduceLeDiff, Nat.reduceBEq]
      refine Ev.bind o1 ?_
      simp -implicitDefEqProofs (disch := omega) only [go_sem, ↓reduceIte, reduceCtorEq, Nat.reduceAdd, Nat.reduceSub, Nat.reduceEqDiff, Nat.reduceLeDiff, Nat.reduceBEq]
      refine Ev.bind a2 ?_
      simp -implicitDefEqProofs (disch := omega) only [go_sem, ↓reduceIte, reduceCtorEq, Nat.reduceAdd, Nat.reduceSub, Nat.reduceEqDiff, Nat.reduceLeDiff, Nat.reduceBEq]
      exact Ev.ret _
  · have key : iv b l / iv c m = (if decide (¬ b = c) = true then -(Q : Int) else (Q : Int)) ∧ iv b l % iv c m = (R : Int) := by
      refine zdm hy ?_ (by omega) (by rw [iv_abs]; omega)
      rw [hx]
      cases b
      · cases c
        · show (R : Int) + (val m : Int) * (Q : Int) = (val m : Int) * (Q : Int) + (R : Int); omega
        · show (R : Int) + -(val m : Int) * -(Q : Int) = (val m : Int) * (Q : Int) + (R : Int); rw [Int.neg_mul_neg]; omega
      · have hR0 : R = 0 := by
          rcases Nat.eq_zero_or_pos R with h | h
          · exact h
          · exact absurd ⟨rfl, by omega⟩ hr
        subst hR0
        cases c
        · show ((0 : Nat) : Int) + (val m : Int) * -(Q : Int) = -((val m : Int) * (Q : Int) + ((0 : Nat) : Int)); rw [Int.mul_neg]; omega
        · show ((0 : Nat) : Int) + -(val m : Int) * (Q : Int) = -((val m : Int) * (Q : Int) + ((0 : Nat) : Int)); rw [Int.neg_mul]; omega
    have hs2 : (if b = true then -(R : Int) else (R : Int)) = (R : Int) := by
      cases b
      · rfl
      · rw [if_pos rfl]
        rcases Nat.eq_zero_or_pos R with h | h
        · omega
        · exact absurd ⟨rfl, by omega⟩ hr
    rw [key.1, key.2]
    rw [hs2] at s2
    clear key hx hdm hQ hR hs2 hr
    generalize (if decide (¬ b = c) = true then -(Q : Int) else (Q : Int)) = Z at *
    unfold ofZ at s1 s2 ⊢
    simp -implicitDefEqProofs (disch := omega) only [go_sem, ↓reduceIte, reduceCtorEq, Nat.reduceAdd, Nat.reduceSub, Nat.reduceEqDiff, Nat.reduceLeDiff, Nat.reduceBEq] at s1 s2
    refine Ev.call rfl tab64 ?_
    simp -implicitDefEqProofs (disch := omega) only [F64, go_sem, ↓reduceIte, reduceCtorEq, Nat.reduceAdd, Nat.reduceSub, Nat.reduceEqDiff, Nat.reduceLeDiff, Nat.reduceBEq]
    refine Ev.bind hd ?_
    simp -implicitDefEqProofs (disch := omega) only [go_sem, ↓reduceIte, reduceCtorEq, Nat.reduceAdd, Nat.reduceSub, Nat.reduceEqDiff, Nat.reduceLeDiff, Nat.reduceBEq]
    refine Ev.bind s1 ?_
    simp -implicitDefEqProofs (disch := omega) only [go_sem, ↓reduceIte, reduceCtorEq, Nat.reduceAdd, Nat.reduceSub, Nat.reduceEqDiff, Nat.reduceLeDiff, Nat.reduceBEq]
    refine Ev.bind s2 ?_
    simp -implicitDefEqProofs (disch := omega) only [go_sem, ↓reduceIte, reduceCtorEq, Nat.reduceAdd, Nat.reduceSub, Nat.reduceEqDiff, Nat.reduceLeDiff, Nat.reduceBEq]
    exact Ev.ret _
end Go.Proofs.Ytnmehcoigcjmlaa.V
set_option linter.unusedSimpArgs false
set_option linter.unusedVariables false
namespace Go.Proofs.Ytnmehcoigcjmlaa.V
open Go Go.Proofs.Ytnmehcoigcjmlaa.M
theorem zsmall_loop {b : Bool} {l0 L : List Int} (hL : Lim L) (h2 : L.length ≤ 2) : ∀ d i, d + i = L.length → ∀ n : Int, n = i → ∀ u : Int, u = (val (L.take i) : Nat) →
    Ev (fun k => run (lvl tab ext k) F25C0 F25L0 ⟨mk [(1, .ptr 1 0), (5, (.pv (.int .u64 (u)))), (14, (.pv (.ints .u32 (L)))), (15, (.pv (.int .i64 ((L.length : Int))))), (16, (.pv (.int .i64 (n))))], hp [(1, .vars [.pv (.bool b), .pv (.ints .u32 l0)])]⟩)
      (.exit 0, ⟨mk [(1, .ptr 1 0), (5, (.pv (.int .u64 (((val L : Nat) : Int))))), (14, (.pv (.ints .u32 (L)))), (15, (.pv (.int .i64 ((L.length : Int))))), (16, (.pv (.int .i64 ((L.length : Int))))), (17, (.pv (.bool (false))))], hp [(1, .vars [.pv (.bool b), .pv (.ints .u32 l0)])]⟩) := by
  intro d
  induction d with
  | zero =>
    intro i hd n hn u hu
    have : i = L.length := by omega
    subst this
    subst hn
    rw [List.take_length] at hu
    subst hu
    refine Ev.body (by unfold F25L0; rfl) ?_
    simp -implicitDefEqProofs (disch := omega) only [go_sem, ↓reduceIte, reduceCtorEq, Nat.reduceAdd, Nat.reduceSub, Nat.reduceEqDiff, Nat.reduceLeDiff, Nat.reduceBEq]
    exact Ev.ret _
  | succ d ih =>
    intro i hd n hn u hu
    subst hn
    have lx := lim_getD hL i
    have hlt := val_lt_take hL i
    have e := or_shift (u := u) (x := L.getD i 0) (i := i) (by omega) (by omega) (by omega) lx.1 lx.2
    have r := ih (i + 1) (by omega) ((i : Int) + 1) (by omega) (u + (P i : Nat) * L.getD i 0) (by
      rw [val_take_succ (by omega), hu]
      obtain ⟨x, hx⟩ := Int.eq_ofNat_of_zero_le lx.1
      rw [hx]; simp)
    clear ih hu hlt
    refine Ev.body (by unfold F25L0; rfl) ?_
    simp -implicitDefEqProofs (disch := omega) only [e, go_sem, ↓reduceIte, reduceCtorEq, Nat.reduceAdd, Nat.reduceSub, Nat.reduceEqDiff, Nat.reduceLeDiff, Nat.reduceBEq]
    exact Ev.lp (by simp -implicitDefEqProofs (disch := omega) only [F25C0, go_sem, ↓reduceIte, reduceCtorEq, Nat.reduceAdd, Nat.reduceSub, Nat.reduceEqDiff, Nat.reduceLeDiff, Nat.reduceBEq]) r
theorem zsmall_ev {p : PV} {x : Int} (h : IsZ p x) : Ev (fun k => (lvl tab ext k).call 25 [.pv p]) [(.pv (.int .i64 (if Fits x then x else 0))), (.pv (.bool (decide (Fits x))))] := by
  obtain ⟨b, l, rfl, hl, hs, rfl⟩ := h
  have hn := norm_ev hl (by omega)
  have hx := iv_abs b l
  generalize hv : val l = v at *
  by_cases h2 : (ofN v).length ≤ 2
  · have hb : v < 18446744073709551616 := by
      have := lt_P_len v
      have h3 := P_mono h2
      have h4 : P 2 = 18446744073709551616 := rfl
      omega
    have lp := zsmall_loop (b := b) (l0 := l) (lim_ofN v) h2 (ofN v).length 0 (by omega) 0 rfl 0 rfl
    rw [val_ofN] at lp
    cases b
    · have e : iv false l = (v : Int) := by rw [iv_false, hv]
      rw [e]
      by_cases hf : v < 9223372036854775808
      · rw [if_pos (show Fits _ from ⟨by omega, by omega⟩), decide_eq_true (show Fits _ from ⟨by omega, by omega⟩)]
        refine Ev.call rfl tab25 ?_
        simp -implicitDefEqProofs (disch := omega) only [F25, go_sem, ↓reduceIte, reduceCtorEq, Nat.reduceAdd, Nat.reduceSub, Nat.reduceEqDiff, Nat.reduceLeDiff, Nat.reduceBEq]
        refine Ev.bind hn ?_
        simp -implicitDefEqProofs (disch := omega) only [go_sem, ↓reduceIte, reduceCtorEq, Nat.reduceAdd, Nat.reduceSub, Nat.reduceEqDiff, Nat.reduceLeDiff, Nat.reduceBEq]
        refine Ev.bind (Ev.lp (by simp -implicitDefEqProofs (disch := omega) only [F25C0, go_sem, ↓reduceIte, reduceCtorEq, Nat.reduceAdd, Nat.reduceSub, Nat.reduceEqDiff, Nat.reduceLeDiff, Nat.reduceBEq]) lp) ?_
        simp -implicitDefEqProofs (disch := omega) only [go_sem, ↓reduceIte, reduceCtorEq, Nat.reduceAdd, Nat.reduceSub, Nat.reduceEqDiff, Nat.reduceLeDiff, Nat.reduceBEq]
        exact Ev.ret _
      · rw [if_neg (fun h : Fits _ => by have := h.2; omega), decide_eq_false (fun h : Fits _ => by have := h.2; omega)]
        refine Ev.call rfl tab25 ?_
        simp -implicitDefEqProofs (disch := omega) only [F25, go_sem, ↓reduceIte, reduceCtorEq, Nat.reduceAdd, Nat.reduceSub, Nat.reduceEqDiff, Nat.reduceLeDiff, Nat.reduceBEq]
        refine Ev.bind hn ?_
        simp -implicitDefEqProofs (disch := omega) only [go_sem, ↓reduceIte, reduceCtorEq, Nat.reduceAdd, Nat.reduceSub, Nat.reduceEqDiff, Nat.reduceLeDiff, Nat.reduceBEq]
        refine Ev.bind (Ev.lp (by simp -implicitDefEqProofs (disch := omega) only [F25C0, go_sem, ↓reduceIte, reduceCtorEq, Nat.reduceAdd, Nat.reduceSub, Nat.reduceEqDiff, Nat.reduceLeDiff, Nat.reduceBEq]) lp) ?_
        simp -implicitDefEqProofs (disch := omega) only [go_sem, ↓reduceIte, reduceCtorEq, Nat.reduceAdd, Nat.reduceSub, Nat.reduceEqDiff, Nat.reduceLeDiff, Nat.reduceBEq]
        exact Ev.ret _
    · have e : iv true l = -(v : Int) := by rw [iv_true, hv]
      rw [e]
      by_cases hf : v ≤ 9223372036854775808
      · rw [if_pos (show Fits _ from ⟨by omega, by omega⟩), decide_eq_true (show Fits _ from ⟨by omega, by omega⟩)]
        have e2 := not_u64 (n := (v : Int)) (by omega) (by omega)
        have e3 := wrap_neg (n := (v : Int)) (by omega) (by omega)
        refine Ev.call rfl tab25 ?_
        simp -implicitDefEqProofs (disch := omega) only [F25, go_sem, ↓reduceIte, reduceCtorEq, Nat.reduceAdd, Nat.reduceSub, Nat.reduceEqDiff, Nat.reduceLeDiff, Nat.reduceBEq]
        refine Ev.bind hn ?_
        simp -implicitDefEqProofs (disch := omega) only [go_sem, ↓reduceIte, reduceCtorEq, Nat.reduceAdd, Nat.reduceSub, Nat.reduceEqDiff, Nat.reduceLeDiff, Nat.reduceBEq]
        refine Ev.bind (Ev.lp (by simp -implicitDefEqProofs (disch := omega) only [F25C0, go_sem, ↓reduceIte, reduceCtorEq, Nat.reduceAdd, Nat.reduceSub, Nat.reduceEqDiff, Nat.reduceLeDiff, Nat.reduceBEq]) lp) ?_
        simp -implicitDefEqProofs (disch := omega) only [e2, e3.1, e3.2, go_sem, ↓reduceIte, reduceCtorEq, Nat.reduceAdd, Nat.reduceSub, Nat.reduceEqDiff, Nat.reduceLeDiff, Nat.reduceBEq]
        exact ret_two (by omega)
      · rw [if_neg (fun h : Fits _ => by have := h.1; omega), decide_eq_false (fun h : Fits _ => by have := h.1; omega)]
        refine Ev.call rfl tab25 ?_
        simp -implicitDefEqProofs (disch := omega) only [F25, go_sem, ↓reduceIte, reduceCtorEq, Nat.reduceAdd, Nat.reduceSub, Nat.reduceEqDiff, Nat.reduceLeDiff, Nat.reduceBEq]
        refine Ev.bind hn ?_
        simp -implicitDefEqProofs (disch := omega) only [go_sem, ↓reduceIte, reduceCtorEq, Nat.reduceAdd, Nat.reduceSub, Nat.reduceEqDiff, Nat.reduceLeDiff, Nat.reduceBEq]
        refine Ev.bind (Ev.lp (by simp -implicitDefEqProofs (disch := omega) only [F25C0, go_sem, ↓reduceIte, reduceCtorEq, Nat.reduceAdd, Nat.reduceSub, Nat.reduceEqDiff, Nat.reduceLeDiff, Nat.reduceBEq]) lp) ?_
        simp -implicitDefEqProofs (disch := omega) only [go_sem, ↓reduceIte, reduceCtorEq, Nat.reduceAdd, Nat.reduceSub, Nat.reduceEqDiff, Nat.reduceLeDiff, Nat.reduceBEq]
        exact Ev.ret _
  · have hb : 18446744073709551616 ≤ v := by
      have := P_len_le (n := v) (by rintro rfl; rw [ofN_zero] at h2; exact h2 (by decide))
      have h3 := P_mono (show 2 ≤ (ofN v).length - 1 by omega)
      have h4 : P 2 = 18446744073709551616 := rfl
      omega
    rw [if_neg (fun h : Fits _ => by have h1 := h.1; have h2 := h.2; omega), decide_eq_false (fun h : Fits _ => by have h1 := h.1; have h2 := h.2; omega)]
    refine Ev.call rfl tab25 ?_
    simp -implicitDefEqProofs (disch := omega) only [F25, go_sem, ↓reduceIte, reduceCtorEq, Nat.reduceAdd, Nat.reduceSub, Nat.reduceEqDiff, Nat.reduceLeDiff, Nat.reduceBEq]
    refine Ev.bind hn ?_
    simp -implicitDefEqProofs (disch := omega) only [go_sem, ↓reduceIte, reduceCtorEq, Nat.reduceAdd, Nat.reduceSub, Nat.reduceEqDiff, Nat.reduceLeDiff, Nat.reduceBEq]
    exact Ev.ret _
end Go.Proofs.Ytnmehcoigcjmlaa.V
set_option linter.unusedSimpArgs false
set_option linter.unusedVariables false
namespace Go.Proofs.Ytnmehcoigcjmlaa.V
open Go Go.Proofs.Ytnmehcoigcjmlaa.M
theorem textZ_len (z : Int) : (textZ z).length ≤ 32 * (ofN z.natAbs).length + 2 := by
  unfold textZ
  have := textN_len z.natAbs
  split
  · rw [List.length_cons]; omega
  · omega
theorem minus_eq (s : List UInt8) : minus s = decide (s.take 1 = [45]) := by
  unfold minus
  cases s with
  | nil => rfl
  | cons c t =>
    rw [show List.take 1 (c :: t) = [c] from rfl, List.length_cons, decide_eq_true (Nat.succ_pos _), Bool.and_true]
    show decide (((c.toNat : Nat) : Int) = 45) = decide ([c] = [45])
    by_cases h : c = 45
    · subst h; rfl
    · rw [decide_eq_false (fun e : [c] = [45] => h (List.cons.inj e).1), decide_eq_false (fun e : ((c.toNat : Nat) : Int) = 45 => h (by
        apply UInt8.toNat_inj.1
        show c.toNat = 45
        omega))]
theorem body_eq (s : List UInt8) : body s = if s.take 1 = [45] then s.drop 1 else s := by
  unfold body
  rw [minus_eq]
  by_cases h : s.take 1 = [45]
  · rw [if_pos h, decide_eq_true h, if_pos rfl]
  · rw [if_neg h, decide_eq_false h, if_neg (by decide)]
theorem body_len (s : List UInt8) : (body s).length ≤ s.length := by
  unfold body
  split
  · rw [List.length_drop]; omega
  · exact Nat.le_refl _
theorem parseN_lt (s : List UInt8) : (ofN (parseN s)).length ≤ 200 := by
  unfold parseN
  split
  · rename_i h
    unfold numT
    have := num_len s.length h.2.2.1
    omega
  · rw [ofN_zero]; decide
theorem ofZ_zero : ofZ 0 = .agg [.bool false, .ints .u32 []] := by unfold ofZ; rw [show (0 : Int).natAbs = 0 from rfl, ofN_zero]; rfl
end Go.Proofs.Ytnmehcoigcjmlaa.V
set_option linter.unusedSimpArgs false
set_option linter.unusedVariables false
namespace Go.Proofs.Ytnmehcoigcjmlaa.V
open Go Go.Proofs.Ytnmehcoigcjmlaa.M
theorem make1_ev {b : Bool} {l : List Int} (hl : Lim l) (hs : l.length ≤ 1000000000) : Ev (fun k => (lvl tab ext k).call 80 [(.pv (.bool (b))), (.pv (.ints .u32 (l)))]) [.pv (ofZ (iv b l))] := by
  rw [ofZ_iv]
  have h1 := len_val_le hl
  refine Ev.call rfl tab80 ?_
  simp -implicitDefEqProofs (disch := omega) only [F80, go_sem, ↓reduceIte, reduceCtorEq, Nat.reduceAdd, Nat.reduceSub, Nat.reduceEqDiff, Nat.reduceLeDiff, Nat.reduceBEq]
  refine Ev.bind (rnorm_ev hl hs) ?_
  by_cases hz : 0 < (ofN (val l)).length
  · cases b
    · simp -implicitDefEqProofs (disch := omega) only [go_sem, ↓reduceIte, reduceCtorEq, Nat.reduceAdd, Nat.reduceSub, Nat.reduceEqDiff, Nat.reduceLeDiff, Nat.reduceBEq]
      exact Ev.ret _
    · simp -implicitDefEqProofs (disch := omega) only [go_sem, ↓reduceIte, reduceCtorEq, Nat.reduceAdd, Nat.reduceSub, Nat.reduceEqDiff, Nat.reduceLeDiff, Nat.reduceBEq]
      exact Ev.ret _
  · cases b
    · simp -implicitDefEqProofs (disch := omega) only [go_sem, ↓reduceIte, reduceCtorEq, Nat.reduceAdd, Nat.reduceSub, Nat.reduceEqDiff, Nat.reduceLeDiff, Nat.reduceBEq]
      exact Ev.ret _
    · simp -implicitDefEqProofs (disch := omega) only [go_sem, ↓reduceIte, reduceCtorEq, Nat.reduceAdd, Nat.reduceSub, Nat.reduceEqDiff, Nat.reduceLeDiff, Nat.reduceBEq]
      exact Ev.ret _
theorem yof_ev {n : Int} (h0 : -9223372036854775808 ≤ n) (h1 : n < 9223372036854775808) : Ev (fun k => (lvl tab ext k).call 51 [(.pv (.int .i64 (n)))]) [.pv (ofZ n)] := by
  by_cases h : n < 0
  · have ho := rof_ev (a := -n) (by omega) (by omega)
    rw [show (-n).toNat = n.natAbs from by omega] at ho
    have e : (0 - (n + 1)) % 18446744073709551616 + 1 = -n := by omega
    have e1 : (0 - (n + 1)) % 18446744073709551616 = 0 - (n + 1) := by omega
    have e2 : (0 - (n + 1)) + 1 = -n := by omega
    unfold ofZ
    refine Ev.call rfl tab51 ?_
    simp -implicitDefEqProofs (disch := omega) only [F51, e2, go_sem, ↓reduceIte, reduceCtorEq, Nat.reduceAdd, Nat.reduceSub, Nat.reduceEqDiff, Nat.reduceLeDiff, Nat.reduceBEq]
    refine Ev.bind ho ?_
    simp -implicitDefEqProofs (disch := omega) only [go_sem, ↓reduceIte, reduceCtorEq, Nat.reduceAdd, Nat.reduceSub, Nat.reduceEqDiff, Nat.reduceLeDiff, Nat.reduceBEq]
    exact Ev.ret _
  · have ho := rof_ev (a := n) (by omega) (by omega)
    rw [show n.toNat = n.natAbs from by omega] at ho
    unfold ofZ
    refine Ev.call rfl tab51 ?_
    simp -implicitDefEqProofs (disch := omega) only [F51, go_sem, ↓reduceIte, reduceCtorEq, Nat.reduceAdd, Nat.reduceSub, Nat.reduceEqDiff, Nat.reduceLeDiff, Nat.reduceBEq]
    refine Ev.bind ho ?_
    simp -implicitDefEqProofs (disch := omega) only [go_sem, ↓reduceIte, reduceCtorEq, Nat.reduceAdd, Nat.reduceSub, Nat.reduceEqDiff, Nat.reduceLeDiff, Nat.reduceBEq]
    exact Ev.ret _
theorem ynorm_ev {p : PV} {x : Int} (h : IsZ p x) : Ev (fun k => (lvl tab ext k).call 59 [.pv p]) [.pv (ofZ x)] := by
  obtain ⟨b, l, rfl, hl, hs, rfl⟩ := h
  refine Ev.call rfl tab59 ?_
  simp -implicitDefEqProofs (disch := omega) only [F59, go_sem, ↓reduceIte, reduceCtorEq, Nat.reduceAdd, Nat.reduceSub, Nat.reduceEqDiff, Nat.reduceLeDiff, Nat.reduceBEq]
  refine Ev.bind (make1_ev hl (by omega)) ?_
  unfold ofZ
  simp -implicitDefEqProofs (disch := omega) only [go_sem, ↓reduceIte, reduceCtorEq, Nat.reduceAdd, Nat.reduceSub, Nat.reduceEqDiff, Nat.reduceLeDiff, Nat.reduceBEq]
  exact Ev.ret _
theorem ofZ_inj {x y : Int} : (decide (x < 0) = decide (y < 0) ∧ ofN x.natAbs = ofN y.natAbs) ↔ x = y := by
  constructor
  · rintro ⟨h1, h2⟩
    have h3 := ofN_inj h2
    by_cases hx : x < 0
    · rw [decide_eq_true hx] at h1
      have := of_decide_eq_true h1.symm
      omega
    · rw [decide_eq_false hx] at h1
      have := of_decide_eq_false h1.symm
      omega
  · rintro rfl
    exact ⟨rfl, rfl⟩
end Go.Proofs.Ytnmehcoigcjmlaa.V
set_option linter.unusedSimpArgs false
set_option linter.unusedVariables false
namespace Go.Proofs.Ytnmehcoigcjmlaa.V
open Go Go.Proofs.Ytnmehcoigcjmlaa.M
theorem ofZ_nought : ofZ 0 = .agg [.bool false, .ints .u32 []] := by unfold ofZ; rw [show (0 : Int).natAbs = 0 from rfl, ofN_zero]; rfl
theorem ysmall_loop {b : Bool} {L : List Int} (hL : Lim L) (h2 : L.length ≤ 2) : ∀ i, i ≤ L.length → ∀ n : Int, n = (i : Int) - 1 → ∀ u : Int, u = (val (L.drop i) : Nat) →
    Ev (fun k => run (lvl tab ext k) F27C0 F27L0 ⟨mk [(4, .ptr 4 0), (5, (.pv (.int .u64 (u)))), (6, (.pv (.int .i64 (n))))], hp [(4, .vars [.pv (.bool b), .pv (.ints .u32 L)])]⟩)
      (.exit 0, ⟨mk [(4, .ptr 4 0), (5, (.pv (.int .u64 (((val L : Nat) : Int))))), (6, (.pv (.int .i64 (-1)))), (18, (.pv (.bool (false))))], hp [(4, .vars [.pv (.bool b), .pv (.ints .u32 L)])]⟩) := by
  intro i
  induction i with
  | zero =>
    intro _ n hn u hu
    have hn : n = -1 := by omega
    subst hn
    rw [List.drop_zero] at hu
    subst hu
    refine Ev.body (by unfold F27L0; rfl) ?_
    simp -implicitDefEqProofs (disch := omega) only [go_sem, ↓reduceIte, reduceCtorEq, Nat.reduceAdd, Nat.reduceSub, Nat.reduceEqDiff, Nat.reduceLeDiff, Nat.reduceBEq]
    exact Ev.ret _
  | succ i ih =>
    intro hi n hn u hu
    have hn : n = (i : Int) := by omega
    subst hn
    have lx := lim_getD hL i
    have hd : L.drop i = L.getD i 0 :: L.drop (i + 1) := by
      rw [List.drop_eq_getElem_cons (by omega), List.getD_eq_getElem?_getD, List.getElem?_eq_getElem (by omega)]; rfl
    have hlt := val_lt (l := L.drop (i + 1)) (fun x hx => hL x (List.mem_of_mem_drop hx))
    rw [List.length_drop] at hlt
    have hlt2 := P_mono (show L.length - (i + 1) ≤ 1 by omega)
    have hP : P 1 = 4294967296 := rfl
    have r := ih (by omega) ((i : Int) - 1) rfl (u * 4294967296 + L.getD i 0) (by
      rw [hd, hu]
      show _ = (((L.getD i 0).toNat + 4294967296 * val (L.drop (i + 1)) : Nat) : Int)
      omega)
    have hu1 : u < 4294967296 := by omega
    have hu0 : 0 ≤ u := by omega
    clear ih hu hlt hlt2 hP hd
    refine Ev.body (by unfold F27L0; rfl) ?_
    simp -implicitDefEqProofs (disch := omega) only [go_sem, ↓reduceIte, reduceCtorEq, Nat.reduceAdd, Nat.reduceSub, Nat.reduceEqDiff, Nat.reduceLeDiff, Nat.reduceBEq]
    exact Ev.lp (by simp -implicitDefEqProofs (disch := omega) only [F27C0, go_sem, ↓reduceIte, reduceCtorEq, Nat.reduceAdd, Nat.reduceSub, Nat.reduceEqDiff, Nat.reduceLeDiff, Nat.reduceBEq]) r
theorem ysmall_ev {p : PV} {x : Int} (h : IsZ p x) : Ev (fun k => (lvl tab ext k).call 27 [.pv p]) [(.pv (.int .i64 (if Fits x then x else 0))), (.pv (.bool (decide (Fits x))))] := by
  have hn := ynorm_ev h
  obtain ⟨b, l, rfl, hl, hs, rfl⟩ := h
  generalize iv b l = x at *
  have hv : ∃ v, v = x.natAbs := ⟨_, rfl⟩
  obtain ⟨v, hv⟩ := hv
  by_cases h2 : (ofN v).length ≤ 2
  · have hb : v < 18446744073709551616 := by
      have := lt_P_len v
      have h3 := P_mono h2
      have h4 : P 2 = 18446744073709551616 := rfl
      omega
    have lp := ysmall_loop (b := decide (x < 0)) (lim_ofN v) h2 (ofN v).length (Nat.le_refl _) _ rfl 0 (by rw [List.drop_length]; rfl)
    rw [val_ofN] at lp
    unfold ofZ at hn
    rw [← hv] at hn
    by_cases hx : x < 0
    · simp -implicitDefEqProofs (disch := omega) only [go_sem, ↓reduceIte, reduceCtorEq, Nat.reduceAdd, Nat.reduceSub, Nat.reduceEqDiff, Nat.reduceLeDiff, Nat.reduceBEq] at hn lp
      by_cases hf : v ≤ 9223372036854775808
      · rw [if_pos (show Fits _ from ⟨by omega, by omega⟩), decide_eq_true (show Fits _ from ⟨by omega, by omega⟩)]
        refine Ev.call rfl tab27 ?_
        simp -implicitDefEqProofs (disch := omega) only [F27, go_sem, ↓reduceIte, reduceCtorEq, Nat.reduceAdd, Nat.reduceSub, Nat.reduceEqDiff, Nat.reduceLeDiff, Nat.reduceBEq]
        refine Ev.bind hn ?_
        simp -implicitDefEqProofs (disch := omega) only [go_sem, ↓reduceIte, reduceCtorEq, Nat.reduceAdd, Nat.reduceSub, Nat.reduceEqDiff, Nat.reduceLeDiff, Nat.reduceBEq]
        refine Ev.bind (Ev.lp (by simp -implicitDefEqProofs (disch := omega) only [F27C0, go_sem, ↓reduceIte, reduceCtorEq, Nat.reduceAdd, Nat.reduceSub, Nat.reduceEqDiff, Nat.reduceLeDiff, Nat.reduceBEq]) lp) ?_
        simp -implicitDefEqProofs (disch := omega) only [go_sem, ↓reduceIte, reduceCtorEq, Nat.reduceAdd, Nat.reduceSub, Nat.reduceEqDiff, Nat.reduceLeDiff, Nat.reduceBEq]
        exact ret_two (by omega)
      · rw [if_neg (fun h : Fits _ => by have := h.1; omega), decide_eq_false (fun h : Fits _ => by have := h.1; omega)]
        refine Ev.call rfl tab27 ?_
        simp -implicitDefEqProofs (disch := omega) only [F27, go_sem, ↓reduceIte, reduceCtorEq, Nat.reduceAdd, Nat.reduceSub, Nat.reduceEqDiff, Nat.reduceLeDiff, Nat.reduceBEq]
        refine Ev.bind hn ?_
        simp -implicitDefEqProofs (disch := omega) only [go_sem, ↓reduceIte, reduceCtorEq, Nat.reduceAdd, Nat.reduceSub, Nat.reduceEqDiff, Nat.reduceLeDiff, Nat.reduceBEq]
        refine Ev.bind (Ev.lp (by simp -implicitDefEqProofs (disch := omega) only [F27C0, go_sem, ↓reduceIte, reduceCtorEq, Nat.reduceAdd, Nat.reduceSub, Nat.reduceEqDiff, Nat.reduceLeDiff, Nat.reduceBEq]) lp) ?_
        simp -implicitDefEqProofs (disch := omega) only [go_sem, ↓reduceIte, reduceCtorEq, Nat.reduceAdd, Nat.reduceSub, Nat.reduceEqDiff, Nat.reduceLeDiff, Nat.reduceBEq]
        exact Ev.ret _
    · simp -implicitDefEqProofs (disch := omega) only [go_sem, ↓reduceIte, reduceCtorEq, Nat.reduceAdd, Nat.reduceSub, Nat.reduceEqDiff, Nat.reduceLeDiff, Nat.reduceBEq] at hn lp
      by_cases hf : v < 9223372036854775808
      · rw [if_pos (show Fits _ from ⟨by omega, by omega⟩), decide_eq_true (show Fits _ from ⟨by omega, by omega⟩)]
        refine Ev.call rfl tab27 ?_
        simp -implicitDefEqProofs (disch := omega) only [F27, go_sem, ↓reduceIte, reduceCtorEq, Nat.reduceAdd, Nat.reduceSub, Nat.reduceEqDiff, Nat.reduceLeDiff, Nat.reduceBEq]
        refine Ev.bind hn ?_
        simp -implicitDefEqProofs (disch := omega) only [go_sem, ↓reduceIte, reduceCtorEq, Nat.reduceAdd, Nat.reduceSub, Nat.reduceEqDiff, Nat.reduceLeDiff, Nat.reduceBEq]
        refine Ev.bind (Ev.lp (by simp -implicitDefEqProofs (disch := omega) only [F27C0, go_sem, ↓reduceIte, reduceCtorEq, Nat.reduceAdd, Nat.reduceSub, Nat.reduceEqDiff, Nat.reduceLeDiff, Nat.reduceBEq]) lp) ?_
        simp -implicitDefEqProofs (disch := omega) only [go_sem, ↓reduceIte, reduceCtorEq, Nat.reduceAdd, Nat.reduceSub, Nat.reduceEqDiff, Nat.reduceLeDiff, Nat.reduceBEq]
        exact ret_two (by omega)
      · rw [if_neg (fun h : Fits _ => by have := h.2; omega), decide_eq_false (fun h : Fits _ => by have := h.2; omega)]
        refine Ev.call rfl tab27 ?_
        simp -implicitDefEqProofs (disch := omega) only [F27, go_sem, ↓reduceIte, reduceCtorEq, Nat.reduceAdd, Nat.reduceSub, Nat.reduceEqDiff, Nat.reduceLeDiff, Nat.reduceBEq]
        refine Ev.bind hn ?_
        simp -implicitDefEqProofs (disch := omega) only [go_sem, ↓reduceIte, reduceCtorEq, Nat.reduceAdd, Nat.reduceSub, Nat.reduceEqDiff, Nat.reduceLeDiff, Nat.reduceBEq]
        refine Ev.bind (Ev.lp (by simp -implicitDefEqProofs (disch := omega) only [F27C0, go_sem, ↓reduceIte, reduceCtorEq, Nat.reduceAdd, Nat.reduceSub, Nat.reduceEqDiff, Nat.reduceLeDiff, Nat.reduceBEq]) lp) ?_
        simp -implicitDefEqProofs (disch := omega) only [go_sem, ↓reduceIte, reduceCtorEq, Nat.reduceAdd, Nat.reduceSub, Nat.reduceEqDiff, Nat.reduceLeDiff, Nat.reduceBEq]
        exact Ev.ret _
  · have hb : 18446744073709551616 ≤ v := by
      have := P_len_le (n := v) (by rintro rfl; rw [ofN_zero] at h2; exact h2 (by decide))
      have h3 := P_mono (show 2 ≤ (ofN v).length - 1 by omega)
      have h4 : P 2 = 18446744073709551616 := rfl
      omega
    rw [if_neg (fun h : Fits _ => by have h1 := h.1; have h2 := h.2; omega), decide_eq_false (fun h : Fits _ => by have h1 := h.1; have h2 := h.2; omega)]
    unfold ofZ at hn
    rw [← hv] at hn
    refine Ev.call rfl tab27 ?_
    simp -implicitDefEqProofs (disch := omega) only [F27, go_sem, ↓reduceIte, reduceCtorEq, Nat.reduceAdd, Nat.reduceSub, Nat.reduceEqDiff, Nat.reduceLeDiff, Nat.reduceBEq]
    refine Ev.bind hn ?_
    simp -implicitDefEqProofs (disch := omega) only [go_sem, ↓reduceIte, reduceCtorEq, Nat.reduceAdd, Nat.reduceSub, Nat.reduceEqDiff, Nat.reduceLeDiff, Nat.reduceBEq]
    exact Ev.ret _
/-! texts -/
theorem rbody_len (s : List UInt8) : (body s).length ≤ s.length := by
  unfold body
  split
  · rw [List.length_drop]; omega
  · exact Nat.le_refl _
theorem rparseN_lt (s : List UInt8) : (ofN (rparseN s)).length ≤ 200 := by
  unfold rparseN
  split
  · rename_i h
    unfold numT
    have := num_len s.length h.2.2.1
    omega
  · rw [ofN_zero]; decide
end Go.Proofs.Ytnmehcoigcjmlaa.V
