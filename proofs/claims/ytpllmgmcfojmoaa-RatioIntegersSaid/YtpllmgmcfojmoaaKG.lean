/- What the integer functions of the program come to: signed, Of, Norm, sign, Cmp, Neg, Add, Sub, Mul.
What the integer functions of the program come to: DivMod, Small.
What the integer functions of the program come to: Small, Text, Parse.
What the integer functions of the program come to: Text, Parse.
What the reference's integer functions come to: Of, make1, Norm, Cmp, Neg, Add, Sub, Mul, Same, Short.
What the reference's integer functions come to: DivMod, Small, Text, Parse. -/
import Derived.Test.YtpllmgmcfojmoaaKE
import Derived.Test.YtpllmgmcfojmoaaKC
import Derived.Test.YtpllmgmcfojmoaaKF

set_option linter.unusedSimpArgs false
set_option linter.unusedVariables false
namespace Go.Proofs.Ytpllmgmcfojmoaa.V
open Go Go.Proofs.Ytpllmgmcfojmoaa.M
theorem signed_ev {b : Bool} {l : List Int} (hl : Lim l) (hs : l.length ≤ 1000000000) : Ev (fun k => (lvl tab ext k).call 87 [(.pv (.bool (b))), (.pv (.ints .u32 (l)))]) [.pv (ofZ (iv b l))] := by
  rw [ofZ_iv]
  have h1 := len_val_le hl
  refine Ev.call rfl tab87 ?_
  simp -implicitDefEqProofs (disch := omega) only [F87, go_sem, ↓reduceIte, reduceCtorEq, Nat.reduceAdd, Nat.reduceSub, Nat.reduceEqDiff, Nat.reduceLeDiff, Nat.reduceBEq]
  refine Ev.bind (norm_ev hl hs) ?_
  by_cases hz : 0 < (ofN (val l)).length
  · cases b
    · simp -implicitDefEqProofs (disch := omega) only [go_sem, ↓reduceIte, reduceCtorEq, Nat.reduceAdd, Nat.reduceSub, Nat.reduceEqDiff, Nat.reduceLeDiff, Nat.reduceBEq]
      exact Ev.ret _
    · simp -implicitDefEqProofs (disch := omega) only [go_sem, ↓reduceIte, reduceCtorEq, Nat.reduceAdd, Nat.reduceSub, Nat.reduceEqDiff, Nat.reduceLeDiff, Nat.reduceBEq]
      exact Ev.ret _
  · cases b
    · simp -implicitDefEqProofs (disch := omega) only [go_sem, ↓reduceIte, reduceCtorEq, Nat.reduceAdd, Nat.reduceSub, Nat.reduceEqDiff, Nat.reduceLeDiff, Nat.reduceBEq]
      exact Ev.ret _
    · simp -implicitDefEqProofs (disch := omega) only [go_sem, ↓reduceIte, reduceCtorEq, Nat.reduceAdd, Nat.reduceSub, Nat.reduceEqDiff, Nat.reduceLeDiff, Nat.reduceBEq]
      exact Ev.ret _
theorem not_u64 {n : Int} (h0 : 0 ≤ n) (h1 : n < 18446744073709551616) : notI .u64 n = 18446744073709551615 - n := by
  obtain ⟨m, rfl⟩ := Int.eq_ofNat_of_zero_le h0
  have hm : m < 2 ^ 64 := by have : (m : Int) < 18446744073709551616 := h1; omega
  unfold notI
  have e : (BitVec.ofInt (IntKind.bits .u64) (if IntKind.signed .u64 = true then -1 else IntKind.max .u64) ^^^ BitVec.ofInt (IntKind.bits .u64) (m : Int)) = ~~~ (BitVec.ofNat 64 m) := by
    show (BitVec.ofInt 64 18446744073709551615) ^^^ (BitVec.ofInt 64 (m : Int)) = _
    rw [BitVec.ofInt_natCast, show BitVec.ofInt 64 18446744073709551615 = BitVec.allOnes 64 from rfl, BitVec.allOnes_xor]
  have e2 : (~~~ (BitVec.ofNat 64 m)).toNat = 18446744073709551615 - m := by
    rw [BitVec.toNat_not, BitVec.toNat_ofNat, Nat.mod_eq_of_lt hm]
  rw [e]
  show IntKind.u64.wrap (((~~~ (BitVec.ofNat 64 m)).toNat : Nat) : Int) = _
  rw [e2, u64 (by omega) (by omega)]
  omega
theorem zof_ev {n : Int} (h0 : -9223372036854775808 ≤ n) (h1 : n < 9223372036854775808) : Ev (fun k => (lvl tab ext k).call 44 [(.pv (.int .i64 (n)))]) [.pv (ofZ n)] := by
  by_cases h : n < 0
  · have e1 : n % 18446744073709551616 = n + 18446744073709551616 := by omega
    have e2 := not_u64 (n := n + 18446744073709551616) (by omega) (by omega)
    have ho := of_ev (a := -n) (by omega) (by omega)
    have sg := signed_ev (b := true) (lim_ofN (-n).toNat) (by have := len_u64 (n := (-n).toNat) (by omega); omega)
    rw [iv_norm, if_pos rfl, show -(((-n).toNat : Nat) : Int) = n from by omega] at sg
    have e3 : (18446744073709551615 - (n + 18446744073709551616) + 1) = -n := by omega
    refine Ev.call rfl tab44 ?_
    simp -implicitDefEqProofs (disch := omega) only [F44, e1, e2, e3, go_sem, ↓reduceIte, reduceCtorEq, Nat.reduceAdd, Nat.reduceSub, Nat.reduceEqDiff, Nat.reduceLeDiff, Nat.reduceBEq]
    refine Ev.bind ho ?_
    simp -implicitDefEqProofs (disch := omega) only [go_sem, ↓reduceIte, reduceCtorEq, Nat.reduceAdd, Nat.reduceSub, Nat.reduceEqDiff, Nat.reduceLeDiff, Nat.reduceBEq]
    refine Ev.bind sg ?_
    unfold ofZ
    simp -implicitDefEqProofs (disch := omega) only [go_sem, ↓reduceIte, reduceCtorEq, Nat.reduceAdd, Nat.reduceSub, Nat.reduceEqDiff, Nat.reduceLeDiff, Nat.reduceBEq]
    exact Ev.ret _
  · have ho := of_ev (a := n) (by omega) (by omega)
    have sg := signed_ev (b := false) (lim_ofN n.toNat) (by have := len_u64 (n := n.toNat) (by omega); omega)
    rw [iv_norm, if_neg (by decide), show ((n.toNat : Nat) : Int) = n from by omega] at sg
    refine Ev.call rfl tab44 ?_
    simp -implicitDefEqProofs (disch := omega) only [F44, go_sem, ↓reduceIte, reduceCtorEq, Nat.reduceAdd, Nat.reduceSub, Nat.reduceEqDiff, Nat.reduceLeDiff, Nat.reduceBEq]
    refine Ev.bind ho ?_
    simp -implicitDefEqProofs (disch := omega) only [go_sem, ↓reduceIte, reduceCtorEq, Nat.reduceAdd, Nat.reduceSub, Nat.reduceEqDiff, Nat.reduceLeDiff, Nat.reduceBEq]
    refine Ev.bind sg ?_
    unfold ofZ
    simp -implicitDefEqProofs (disch := omega) only [go_sem, ↓reduceIte, reduceCtorEq, Nat.reduceAdd, Nat.reduceSub, Nat.reduceEqDiff, Nat.reduceLeDiff, Nat.reduceBEq]
    exact Ev.ret _
theorem znorm_ev {p : PV} {x : Int} (h : IsZ p x) : Ev (fun k => (lvl tab ext k).call 57 [.pv p]) [.pv (ofZ x)] := by
  obtain ⟨b, l, rfl, hl, hs, rfl⟩ := h
  refine Ev.call rfl tab57 ?_
  simp -implicitDefEqProofs (disch := omega) only [F57, go_sem, ↓reduceIte, reduceCtorEq, Nat.reduceAdd, Nat.reduceSub, Nat.reduceEqDiff, Nat.reduceLeDiff, Nat.reduceBEq]
  refine Ev.bind (signed_ev hl (by omega)) ?_
  unfold ofZ
  simp -implicitDefEqProofs (disch := omega) only [go_sem, ↓reduceIte, reduceCtorEq, Nat.reduceAdd, Nat.reduceSub, Nat.reduceEqDiff, Nat.reduceLeDiff, Nat.reduceBEq]
  exact Ev.ret _
theorem zneg_ev {p : PV} {x : Int} (h : IsZ p x) : Ev (fun k => (lvl tab ext k).call 45 [.pv p]) [.pv (ofZ (-x))] := by
  obtain ⟨b, l, rfl, hl, hs, rfl⟩ := h
  have e : iv (!b) l = -iv b l := by cases b <;> simp [iv]
  have sg := signed_ev (b := !b) hl (by omega)
  rw [e] at sg
  refine Ev.call rfl tab45 ?_
  simp -implicitDefEqProofs (disch := omega) only [F45, go_sem, ↓reduceIte, reduceCtorEq, Nat.reduceAdd, Nat.reduceSub, Nat.reduceEqDiff, Nat.reduceLeDiff, Nat.reduceBEq]
  refine Ev.bind sg ?_
  unfold ofZ
  simp -implicitDefEqProofs (disch := omega) only [go_sem, ↓reduceIte, reduceCtorEq, Nat.reduceAdd, Nat.reduceSub, Nat.reduceEqDiff, Nat.reduceLeDiff, Nat.reduceBEq]
  exact Ev.ret _
theorem zsign_ev {p : PV} {x : Int} (h : IsZ p x) : Ev (fun k => (lvl tab ext k).call 101 [.pv p]) [(.pv (.int .i64 (isgn x)))] := by
  obtain ⟨b, l, rfl, hl, hs, rfl⟩ := h
  unfold isgn
  refine Ev.call rfl tab101 ?_
  simp -implicitDefEqProofs (disch := omega) only [F101, go_sem, ↓reduceIte, reduceCtorEq, Nat.reduceAdd, Nat.reduceSub, Nat.reduceEqDiff, Nat.reduceLeDiff, Nat.reduceBEq]
  refine Ev.bind (norm_ev hl (by omega)) ?_
  by_cases h0 : val l = 0
  · have e : iv b l = 0 := by cases b <;> simp [iv, h0]
    rw [e, icmp_eq, h0, ofN_zero]
    simp -implicitDefEqProofs (disch := omega) only [go_sem, ↓reduceIte, reduceCtorEq, Nat.reduceAdd, Nat.reduceSub, Nat.reduceEqDiff, Nat.reduceLeDiff, Nat.reduceBEq]
    exact Ev.ret _
  · have hp := ofN_length_pos.2 (Nat.pos_of_ne_zero h0)
    cases b
    · rw [icmp_gt (show 0 < iv false l by rw [iv_false]; omega)]
      simp -implicitDefEqProofs (disch := omega) only [go_sem, ↓reduceIte, reduceCtorEq, Nat.reduceAdd, Nat.reduceSub, Nat.reduceEqDiff, Nat.reduceLeDiff, Nat.reduceBEq]
      exact Ev.ret _
    · rw [icmp_lt (show iv true l < 0 by rw [iv_true]; omega)]
      simp -implicitDefEqProofs (disch := omega) only [go_sem, ↓reduceIte, reduceCtorEq, Nat.reduceAdd, Nat.reduceSub, Nat.reduceEqDiff, Nat.reduceLeDiff, Nat.reduceBEq]
      exact Ev.ret _
theorem zcmp_ev {p q : PV} {x y : Int} (hp : IsZ p x) (hq : IsZ q y) : Ev (fun k => (lvl tab ext k).call 76 [.pv p, .pv q]) [(.pv (.int .i64 (icmp x y)))] := by
  have s1 := zsign_ev hp
  have s2 := zsign_ev hq
  obtain ⟨b, l, rfl, hl, hs, rfl⟩ := hp
  obtain ⟨c, m, rfl, hm, hs2, rfl⟩ := hq
  have r1 := icmp_range (iv b l) 0
  have r2 := icmp_range (iv c m) 0
  have hc := cmp_ev hl hm (by omega) (by omega)
  refine Ev.call rfl tab76 ?_
  simp -implicitDefEqProofs (disch := omega) only [F76, go_sem, ↓reduceIte, reduceCtorEq, Nat.reduceAdd, Nat.reduceSub, Nat.reduceEqDiff, Nat.reduceLeDiff, Nat.reduceBEq]
  refine Ev.bind s1 ?_
  simp -implicitDefEqProofs (disch := omega) only [go_sem, ↓reduceIte, reduceCtorEq, Nat.reduceAdd, Nat.reduceSub, Nat.reduceEqDiff, Nat.reduceLeDiff, Nat.reduceBEq]
  refine Ev.bind s2 ?_
  unfold isgn
  by_cases he : icmp (iv b l) 0 = icmp (iv c m) 0
  · have key := sgn_cmp (iv_or b l) (iv_or c m) he
    have rg := cmp_range (val l) (val m)
    have rk := icmp_range (iv b l) (iv c m)
    rw [← key] at rk
    rw [← key]
    generalize icmp (iv b l) 0 = i1 at *
    generalize icmp (iv c m) 0 = i2 at *
    generalize hg : cmp (val l) (val m) = g at *
    generalize hk : i2 * g = k2 at *
    simp -implicitDefEqProofs (disch := omega) only [he, go_sem, ↓reduceIte, reduceCtorEq, Nat.reduceAdd, Nat.reduceSub, Nat.reduceEqDiff, Nat.reduceLeDiff, Nat.reduceBEq]
    refine Ev.bind hc ?_
    simp -implicitDefEqProofs (disch := omega) only [hk, go_sem, ↓reduceIte, reduceCtorEq, Nat.reduceAdd, Nat.reduceSub, Nat.reduceEqDiff, Nat.reduceLeDiff, Nat.reduceBEq]
    exact Ev.ret _
  · by_cases hlt : icmp (iv b l) 0 < icmp (iv c m) 0
    · have : iv b l < iv c m := by
        unfold icmp at hlt
        revert hlt
        repeat' split
        all_goals omega
      rw [icmp_lt this]
      clear this
      simp -implicitDefEqProofs (disch := omega) only [go_sem, ↓reduceIte, reduceCtorEq, Nat.reduceAdd, Nat.reduceSub, Nat.reduceEqDiff, Nat.reduceLeDiff, Nat.reduceBEq]
      exact Ev.ret _
    · have : iv c m < iv b l := by
        unfold icmp at hlt he
        revert hlt he
        repeat' split
        all_goals omega
      rw [icmp_gt this]
      clear this
      simp -implicitDefEqProofs (disch := omega) only [go_sem, ↓reduceIte, reduceCtorEq, Nat.reduceAdd, Nat.reduceSub, Nat.reduceEqDiff, Nat.reduceLeDiff, Nat.reduceBEq]
      exact Ev.ret _
theorem zadd_ev {p q : PV} {x y : Int} (hp : IsZ p x) (hq : IsZ q y) : Ev (fun k => (lvl tab ext k).call 78 [.pv p, .pv q]) [.pv (ofZ (x + y))] := by
  obtain ⟨b, l, rfl, hl, hs, rfl⟩ := hp
  obtain ⟨c, m, rfl, hm, hs2, rfl⟩ := hq
  have hA := add_ev hl hm (by omega) (by omega)
  have hC := cmp_ev hl hm (by omega) (by omega)
  have hS1 := sub_ev hl hm (by omega) (by omega)
  have hS2 := sub_ev hm hl (by omega) (by omega)
  have l1 := len_val_le hl
  have l2 := len_val_le hm
  have l3 := len_add (val l) (val m)
  by_cases hbc : b = c
  · subst hbc
    have sg := signed_ev (b := b) (lim_ofN (val l + val m)) (by omega)
    rw [iv_norm, show (if b = true then -((val l + val m : Nat) : Int) else ((val l + val m : Nat) : Int)) = iv b l + iv b m from by cases b <;> simp [iv] <;> omega] at sg
    have ht : (b = b) = True := eq_self b
    refine Ev.call rfl tab78 ?_
    simp -implicitDefEqProofs (disch := omega) only [F78, go_sem, ↓reduceIte, reduceCtorEq, Nat.reduceAdd, Nat.reduceSub, Nat.reduceEqDiff, Nat.reduceLeDiff, Nat.reduceBEq]
    refine Ev.bind hA ?_
    simp -implicitDefEqProofs (disch := omega) only [go_sem, ↓reduceIte, reduceCtorEq, Nat.reduceAdd, Nat.reduceSub, Nat.reduceEqDiff, Nat.reduceLeDiff, Nat.reduceBEq]
    refine Ev.bind sg ?_
    unfold ofZ
    simp -implicitDefEqProofs (disch := omega) only [go_sem, ↓reduceIte, reduceCtorEq, Nat.reduceAdd, Nat.reduceSub, Nat.reduceEqDiff, Nat.reduceLeDiff, Nat.reduceBEq]
    exact Ev.ret _
  · have hf : (b = c) = False := ff hbc
    by_cases hlt : val l < val m
    · have hcm := cmp_neg.2 hlt
      have sg := signed_ev (b := c) (lim_ofN (val m - val l)) (by have := len_mono (Nat.sub_le (val m) (val l)); omega)
      rw [iv_norm, show (if c = true then -((val m - val l : Nat) : Int) else ((val m - val l : Nat) : Int)) = iv b l + iv c m from by cases b <;> cases c <;> simp [iv] at * <;> omega] at sg
      refine Ev.call rfl tab78 ?_
      simp -implicitDefEqProofs (disch := omega) only [F78, hf, go_sem, ↓reduceIte, reduceCtorEq, Nat.reduceAdd, Nat.reduceSub, Nat.reduceEqDiff, Nat.reduceLeDiff, Nat.reduceBEq]
      refine Ev.bind hC ?_
      simp -implicitDefEqProofs (disch := omega) only [go_sem, ↓reduceIte, reduceCtorEq, Nat.reduceAdd, Nat.reduceSub, Nat.reduceEqDiff, Nat.reduceLeDiff, Nat.reduceBEq]
      refine Ev.bind hS2 ?_
      simp -implicitDefEqProofs (disch := omega) only [go_sem, ↓reduceIte, reduceCtorEq, Nat.reduceAdd, Nat.reduceSub, Nat.reduceEqDiff, Nat.reduceLeDiff, Nat.reduceBEq]
      refine Ev.bind sg ?_
      unfold ofZ
      simp -implicitDefEqProofs (disch := omega) only [go_sem, ↓reduceIte, reduceCtorEq, Nat.reduceAdd, Nat.reduceSub, Nat.reduceEqDiff, Nat.reduceLeDiff, Nat.reduceBEq]
      exact Ev.ret _
    · have hcm : 0 ≤ cmp (val l) (val m) := cmp_nonneg.2 (by omega)
      have sg := signed_ev (b := b) (lim_ofN (val l - val m)) (by have := len_mono (Nat.sub_le (val l) (val m)); omega)
      rw [iv_norm, show (if b = true then -((val l - val m : Nat) : Int) else ((val l - val m : Nat) : Int)) = iv b l + iv c m from by cases b <;> cases c <;> simp [iv] at * <;> omega] at sg
      refine Ev.call rfl tab78 ?_
      simp -implicitDefEqProofs (disch := omega) only [F78, hf, go_sem, ↓reduceIte, reduceCtorEq, Nat.reduceAdd, Nat.reduceSub, Nat.reduceEqDiff, Nat.reduceLeDiff, Nat.reduceBEq]
      refine Ev.bind hC ?_
      simp -implicitDefEqProofs (disch := omega) only [go_sem, ↓reduceIte, reduceCtorEq, Nat.reduceAdd, Nat.reduceSub, Nat.reduceEqDiff, Nat.reduceLeDiff, Nat.reduceBEq]
      refine Ev.bind hS1 ?_
      simp -implicitDefEqProofs (disch := omega) only [go_sem, ↓reduceIte, reduceCtorEq, Nat.reduceAdd, Nat.reduceSub, Nat.reduceEqDiff, Nat.reduceLeDiff, Nat.reduceBEq]
      refine Ev.bind sg ?_
      unfold ofZ
      simp -implicitDefEqProofs (disch := omega) only [go_sem, ↓reduceIte, reduceCtorEq, Nat.reduceAdd, Nat.reduceSub, Nat.reduceEqDiff, Nat.reduceLeDiff, Nat.reduceBEq]
      exact Ev.ret _
theorem zsub_ev {p q : PV} {x y : Int} (hp : IsZ p x) (hq : IsZ q y) (hy : Sz 1000000 y) : Ev (fun k => (lvl tab ext k).call 89 [.pv p, .pv q]) [.pv (ofZ (x - y))] := by
  have n := zneg_ev hq
  have a := zadd_ev hp (isZ_of (sz_neg hy))
  rw [← Int.sub_eq_add_neg] at a
  obtain ⟨b, l, rfl, hl, hs, rfl⟩ := hp
  obtain ⟨c, m, rfl, hm, hs2, rfl⟩ := hq
  refine Ev.call rfl tab89 ?_
  simp -implicitDefEqProofs (disch := omega) only [F89, go_sem, ↓reduceIte, reduceCtorEq, Nat.reduceAdd, Nat.reduceSub, Nat.reduceEqDiff, Nat.reduceLeDiff, Nat.reduceBEq]
  refine Ev.bind n ?_
  unfold ofZ at a ⊢
  simp -implicitDefEqProofs (disch := omega) only [go_sem, ↓reduceIte, reduceCtorEq, Nat.reduceAdd, Nat.reduceSub, Nat.reduceEqDiff, Nat.reduceLeDiff, Nat.reduceBEq]
  refine Ev.bind a ?_
  simp -implicitDefEqProofs (disch := omega) only [go_sem, ↓reduceIte, reduceCtorEq, Nat.reduceAdd, Nat.reduceSub, Nat.reduceEqDiff, Nat.reduceLeDiff, Nat.reduceBEq]
  exact Ev.ret _
theorem zmul_ev {p q : PV} {x y : Int} (hp : IsZ p x) (hq : IsZ q y) : Ev (fun k => (lvl tab ext k).call 77 [.pv p, .pv q]) [.pv (ofZ (x * y))] := by
  obtain ⟨b, l, rfl, hl, hs, rfl⟩ := hp
  obtain ⟨c, m, rfl, hm, hs2, rfl⟩ := hq
  have hM := mul_ev hl hm (by omega)
  have l1 := len_val_le hl
  have l2 := len_val_le hm
  have l3 := len_mul (val l) (val m)
  have sg := signed_ev (b := decide (¬ b = c)) (lim_ofN (val l * val m)) (by omega)
  rw [iv_norm, show (if decide (¬ b = c) = true then -((val l * val m : Nat) : Int) else ((val l * val m : Nat) : Int)) = iv b l * iv c m from by cases b <;> cases c <;> simp [iv, Int.neg_mul, Int.mul_neg]] at sg
  refine Ev.call rfl tab77 ?_
  simp -implicitDefEqProofs (disch := omega) only [F77, go_sem, ↓reduceIte, reduceCtorEq, Nat.reduceAdd, Nat.reduceSub, Nat.reduceEqDiff, Nat.reduceLeDiff, Nat.reduceBEq]
  refine Ev.bind hM ?_
  simp -implicitDefEqProofs (disch := omega) only [go_sem, ↓reduceIte, reduceCtorEq, Nat.reduceAdd, Nat.reduceSub, Nat.reduceEqDiff, Nat.reduceLeDiff, Nat.reduceBEq]
  refine Ev.bind sg ?_
  unfold ofZ
  simp -implicitDefEqProofs (disch := omega) only [go_sem, ↓reduceIte, reduceCtorEq, Nat.reduceAdd, Nat.reduceSub, Nat.reduceEqDiff, Nat.reduceLeDiff, Nat.reduceBEq]
  exact Ev.ret _
end Go.Proofs.Ytpllmgmcfojmoaa.V
set_option linter.unusedSimpArgs false
set_option linter.unusedVariables false
namespace Go.Proofs.Ytpllmgmcfojmoaa.V
open Go Go.Proofs.Ytpllmgmcfojmoaa.M
theorem zdm0_ev {p q : PV} {x : Int} (hp : IsZ p x) (hq : IsZ q 0) : Ev (fun k => (lvl tab ext k).call 50 [.pv p, .pv q]) [.pv (ofZ 0), .pv (ofZ 0), (.pv (.bool (false)))] := by
  obtain ⟨b, l, rfl, hl, hs, rfl⟩ := hp
  obtain ⟨c, m, rfl, hm, hs2, he⟩ := hq
  have h0 : val m = 0 := by have := iv_or c m; omega
  have hd := divmod0_ev hl hm (by omega) (by omega) h0
  have e : ofZ 0 = .agg [.bool false, .ints .u32 []] := by unfold ofZ; rw [show (0 : Int).natAbs = 0 from rfl, ofN_zero]; rfl
  rw [e]
  refine Ev.call rfl tab50 ?_
  simp -implicitDefEqProofs (disch := omega) only [F50, go_sem, ↓reduceIte, reduceCtorEq, Nat.reduceAdd, Nat.reduceSub, Nat.reduceEqDiff, Nat.reduceLeDiff, Nat.reduceBEq]
  refine Ev.bind hd ?_
  simp -implicitDefEqProofs (disch := omega) only [go_sem, ↓reduceIte, reduceCtorEq, Nat.reduceAdd, Nat.reduceSub, Nat.reduceEqDiff, Nat.reduceLeDiff, Nat.reduceBEq]
  exact Ev.ret _
theorem zdivmod_ev {p q : PV} {x y : Int} (hp : IsZ p x) (hq : IsZ q y) (hy : y ≠ 0) : Ev (fun k => (lvl tab ext k).call 50 [.pv p, .pv q]) [.pv (ofZ (x / y)), .pv (ofZ (x % y)), (.pv (.bool (true)))] := by
  obtain ⟨b, l, rfl, hl, hs, rfl⟩ := hp
  obtain ⟨c, m, rfl, hm, hs2, rfl⟩ := hq
  have hv0 : val m ≠ 0 := by intro h; apply hy; have := iv_or c m; omega
  obtain ⟨o, hd⟩ := divmod_ev hl hm (by omega) (by omega) hv0
  have l1 := len_val_le hl
  have l2 := len_val_le hm
  have l3 := len_mono (Nat.div_le_self (val l) (val m))
  have l4 := len_mono (Nat.le_of_lt (Nat.mod_lt (val l) (Nat.pos_of_ne_zero hv0)))
  have s1 := signed_ev (b := decide (¬ b = c)) (lim_ofN (val l / val m)) (by omega)
  have s2 := signed_ev (b := b) (lim_ofN (val l % val m)) (by omega)
  have s3 := signed_ev (b := false) hm (by omega)
  have hdm := Nat.div_add_mod (val l) (val m)
  have hlt := Nat.mod_lt (val l) (Nat.pos_of_ne_zero hv0)
  have ez : (0 : Int) + 1 = 1 := rfl
  generalize hQ : val l / val m = Q at *
  generalize hR : val l % val m = R at *
  have hx : iv b l = if b = true then -((val m : Int) * (Q : Int) + (R : Int)) else (val m : Int) * (Q : Int) + (R : Int) := by
    have : ((val l : Nat) : Int) = (val m : Int) * (Q : Int) + (R : Int) := by rw [← hdm]; simp
    unfold iv
    rw [this]
  rw [iv_norm] at s1 s2
  by_cases hr : b = true ∧ R ≠ 0
  · obtain ⟨rfl, hR0⟩ := hr
    have key : iv true l / iv c m = (if c = true then (Q : Int) + 1 else -(Q : Int) - 1) ∧ iv true l % iv c m = (val m : Int) - (R : Int) := by
      refine zdm hy ?_ (by omega) (by rw [iv_abs]; omega)
      rw [hx]
      cases c
      · rw [iv_false, if_neg (by decide), if_pos rfl, Int.mul_sub, Int.mul_neg]; omega
      · rw [iv_true, if_pos rfl, if_pos rfl, Int.neg_mul, Int.mul_add]; omega
    rw [key.1, key.2]
    have sR : Sz 1000000 (-(R : Int)) := by apply sz_neg; unfold Sz; show (ofN R).length ≤ _; omega
    have sm : Sz 1000000 ((val m : Nat) : Int) := by unfold Sz; show (ofN (val m)).length ≤ _; omega
    have a1 := zadd_ev (isZ_of sR) (isZ_of sm)
    have o1 := zof_ev (n := 1) (by decide) (by decide)
    have s1' : Sz 1000000 1 := sz_mono (sz_int (by decide) (by decide)) (by decide)
    rw [if_pos rfl] at s2
    rw [iv_false] at s3
    rw [show -(R : Int) + (val m : Int) = (val m : Int) - (R : Int) from by omega] at a1
    have hb1 : decide (-(R : Int) < 0) = true := decide_eq_true (by omega)
    clear key hx hdm hQ hR
    cases c
    · have a2 := zsub_ev (isZ_of (z := -(Q : Int)) (by apply sz_neg; unfold Sz; show (ofN Q).length ≤ _; omega)) (isZ_of s1') s1'
      have e1 : decide (¬ true = false) = true := rfl
      rw [e1, if_pos rfl] at s1
      rw [if_neg (by decide)]
      unfold ofZ at s1 s2 s3 a1 a2 o1 ⊢
      simp -implicitDefEqProofs (disch := omega) only [go_sem, ↓reduceIte, reduceCtorEq, Nat.reduceAdd, Nat.reduceSub, Nat.reduceEqDiff, Nat.reduceLeDiff, Nat.reduceBEq] at s1 s2 s3 a1 a2 o1
      refine Ev.call rfl tab50 ?_
      simp -implicitDefEqProofs (disch := omega) only [F50, go_sem, ↓reduceIte, reduceCtorEq, Nat.reduceAdd, Nat.reduceSub, Nat.reduceEqDiff, Nat.reduceLeDiff, Nat.reduceBEq]
      refine Ev.bind hd ?_
      simp -implicitDefEqProofs (disch := omega) only [e1, go_sem, ↓reduceIte, reduceCtorEq, Nat.reduceAdd, Nat.reduceSub, Nat.reduceEqDiff, Nat.reduceLeDiff, Nat.reduceBEq]
      refine Ev.bind s1 ?_
      simp -implicitDefEqProofs (disch := omega) only [go_sem, ↓reduceIte, reduceCtorEq, Nat.reduceAdd, Nat.reduceSub, Nat.reduceEqDiff, Nat.reduceLeDiff, Nat.reduceBEq]
      refine Ev.bind s2 ?_
      simp -implicitDefEqProofs (disch := omega) only [go_sem, ↓reduceIte, reduceCtorEq, Nat.reduceAdd, Nat.reduceSub, Nat.reduceEqDiff, Nat.reduceLeDiff, Nat.reduceBEq]
      refine Ev.bind s3 ?_
      simp -implicitDefEqProofs (disch := omega) only [go_sem, ↓reduceIte, reduceCtorEq, Nat.reduceAdd, Nat.reduceSub, Nat.reduceEqDiff, Nat.reduceLeDiff, Nat.reduceBEq]
      refine Ev.bind a1 ?_
      simp -implicitDefEqProofs (disch := omega) only [go_sem, ↓reduceIte, reduceCtorEq, Nat.reduceAdd, Nat.reduceSub, Nat.reduceEqDiff, Nat.reduceLeDiff, Nat.reduceBEq]
      refine Ev.bind o1 ?_
      simp -implicitDefEqProofs (disch := omega) only [go_sem, ↓reduceIte, reduceCtorEq, Nat.reduceAdd, Nat.reduceSub, Nat.reduceEqDiff, Nat.reduceLeDiff, Nat.reduceBEq]
      refine Ev.bind a2 ?_
      simp -implicitDefEqProofs (disch := omega) only [go_sem, ↓reduceIte, reduceCtorEq, Nat.reduceAdd, Nat.reduceSub, Nat.reduceEqDiff, Nat.reduceLeDiff, Nat.reduceBEq]
      exact Ev.ret _
    · have a2 := zadd_ev (isZ_of (z := (Q : Int)) (by unfold Sz; show (ofN Q).length ≤ _; omega)) (isZ_of s1')
      have e1 : decide (¬ true = true) = false := rfl
      rw [e1, if_neg (by decide)] at s1
      rw [if_pos rfl]
      unfold ofZ at s1 s2 s3 a1 a2 o1 ⊢
      simp -implicitDefEqProofs (disch := omega) only [go_sem, ↓reduceIte, reduceCtorEq, Nat.reduceAdd, Nat.reduceSub, Nat.reduceEqDiff, Nat.reduceLeDiff, Nat.reduceBEq] at s1 s2 s3 a1 a2 o1
      refine Ev.call rfl tab50 ?_
      simp -implicitDefEqProofs (disch := omega) only [F50, go_sem, ↓reduceIte, reduceCtorEq, Nat.reduceAdd, Nat.reduceSub, Nat.reduceEqDiff, Nat.reduceLeDiff, Nat.reduceBEq]
      refine Ev.bind hd ?_
      simp -implicitDefEqProofs (disch := omega) only [e1, go_sem, ↓reduceIte, reduceCtorEq, Nat.reduceAdd, Nat.reduceSub, Nat.reduceEqDiff, Nat.reduceLeDiff, Nat.reduceBEq]
      refine Ev.bind s1 ?_
      simp -implicitDefEqProofs (disch := omega) only [go_sem, ↓reduceIte, reduceCtorEq, Nat.reduceAdd, Nat.reduceSub, Nat.reduceEqDiff, Nat.reduceLeDiff, Nat.reduceBEq]
      refine Ev.bind s2 ?_
      simp -implicitDefEqProofs (disch := omega) only [go_sem, ↓reduceIte, reduceCtorEq, Nat.reduceAdd, Nat.reduceSub, Nat.reduceEqDiff, Nat.reduceLeDiff, Nat.reduceBEq]
      refine Ev.bind s3 ?_
      simp -implicitDefEqProofs (disch := omega) only [go_sem, ↓reduceIte, reduceCtorEq, Nat.reduceAdd, Nat.reduceSub, Nat.reduceEqDiff, Nat.reduceLeDiff, Nat.reduceBEq]
      refine Ev.bind a1 ?_
      simp -implicitDefEqProofs (disch := omega) only [go_sem, ↓reduceIte, reduceCtorEq, Nat.reduceAdd, Nat.reduceSub, Nat.reduceEqDiff, Nat.reduceLeDiff, Nat.reduceBEq]
      refine Ev.bind o1 ?_
      simp -implicitDefEqProofs (disch := omega) only [go_sem, ↓reduceIte, reduceCtorEq, Nat.reduceAdd, Nat.reduceSub, Nat.reduceEqDiff, Nat.reduceLeDiff, Nat.reduceBEq]
      refine Ev.bind a2 ?_
      simp -implicitDefEqProofs (disch := omega) only [go_sem, ↓reduceIte, reduceCtorEq, Nat.reduceAdd, Nat.reduceSub, Nat.reduceEqDiff, Nat.reduceLeDiff, Nat.reduceBEq]
      exact Ev.ret _
  · have key : iv b l / iv c m = (if decide (¬ b = c) = true then -(Q : Int) else (Q : Int)) ∧ iv b l % iv c m = (R : Int) := by
      refine zdm hy ?_ (by omega) (by rw [iv_abs]; omega)
      rw [hx]
      cases b
      · cases c
        · show (R : Int) + (val m : Int) * (Q : Int) = (val m : Int) * (Q : Int) + (R : Int); omega
        · show (R : Int) + -(val m : Int) * -(Q : Int) = (val m : Int) * (Q : Int) + (R : Int); rw [Int.neg_mul_neg]; omega
      · have hR0 : R = 0 := by
          rcases Nat.eq_zero_or_pos R with h | h
          · exact h
          · exact absurd ⟨rfl, by omega⟩ hr
        subst hR0
        cases c
        · show ((0 : Nat) : Int) + (val m : Int) * -(Q : Int) = -((val m : Int) * (Q : Int) + ((0 : Nat) : Int)); rw [Int.mul_neg]; omega
        · show ((0 : Nat) : Int) + -(val m : Int) * (Q : Int) = -((val m : Int) * (Q : Int) + ((0 : Nat) : Int)); rw [Int.neg_mul]; omega
    have hs2 : (if b = true then -(R : Int) else (R : Int)) = (R : Int) := by
      cases b
      · rfl
      · rw [if_pos rfl]
        rcases Nat.eq_zero_or_pos R with h | h
        · omega
        · exact absurd ⟨rfl, by omega⟩ hr
    rw [key.1, key.2]
    rw [hs2] at s2
    clear key hx hdm hQ hR hs2 hr
    generalize (if decide (¬ b = c) = true then -(Q : Int) else (Q : Int)) = Z at *
    unfold ofZ at s1 s2 ⊢
    simp -implicitDefEqProofs (disch := omega) only [go_sem, ↓reduceIte, reduceCtorEq, Nat.reduceAdd, Nat.reduceSub, Nat.reduceEqDiff, Nat.reduceLeDiff, Nat.reduceBEq] at s1 s2
    refine Ev.call rfl tab50 ?_
    simp -implicitDefEqProofs (disch := omega) only [F50, go_sem, ↓reduceIte, reduceCtorEq, Nat.reduceAdd, Nat.reduceSub, Nat.reduceEqDiff, Nat.reduceLeDiff, Nat.reduceBEq]
    refine Ev.bind hd ?_
    simp -implicitDefEqProofs (disch := omega) only [go_sem, ↓reduceIte, reduceCtorEq, Nat.reduceAdd, Nat.reduceSub, Nat.reduceEqDiff, Nat.reduceLeDiff, Nat.reduceBEq]
    refine Ev.bind s1 ?_
    simp -implicitDefEqProofs (disch := omega) only [go_sem, ↓reduceIte, reduceCtorEq, Nat.reduceAdd, Nat.reduceSub, Nat.reduceEqDiff, Nat.reduceLeDiff, Nat.reduceBEq]
    refine Ev.bind s2 ?_
    simp -implicitDefEqProofs (disch := omega) only [go_sem, ↓reduceIte, reduceCtorEq, Nat.reduceAdd, Nat.reduceSub, Nat.reduceEqDiff, Nat.reduceLeDiff, Nat.reduceBEq]
    exact Ev.ret _
end Go.Proofs.Ytpllmgmcfojmoaa.V
set_option linter.unusedSimpArgs false
set_option linter.unusedVariables false
namespace Go.Proofs.Ytpllmgmcfojmoaa.V
open Go Go.Proofs.Ytpllmgmcfojmoaa.M
end Go.Proofs.Ytpllmgmcfojmoaa.V
set_option linter.unusedSimpArgs false
set_option linter.unusedVariables false
namespace Go.Proofs.Ytpllmgmcfojmoaa.V
open Go Go.Proofs.Ytpllmgmcfojmoaa.M
theorem textZ_len (z : Int) : (textZ z).length ≤ 32 * (ofN z.natAbs).length + 2 := by
  unfold textZ
  have := textN_len z.natAbs
  split
  · rw [List.length_cons]; omega
  · omega
theorem ztext_ev {p : PV} {x : Int} (h : IsZ p x) : Ev (fun k => (lvl tab ext k).call 63 [.pv p]) [(.pv (.str (textZ x)))] := by
  have sg := zsign_ev h
  obtain ⟨b, l, rfl, hl, hs, rfl⟩ := h
  have ht := text_ev hl (by omega)
  have tl := textN_len (val l)
  have l1 := len_val_le hl
  unfold isgn at sg
  unfold textZ
  rw [iv_abs]
  generalize textN (val l) = t at *
  by_cases h0 : iv b l < 0
  · rw [if_pos h0]
    have := icmp_lt h0
    rw [this] at sg
    refine Ev.call rfl tab63 ?_
    simp -implicitDefEqProofs (disch := omega) only [F63, go_sem, ↓reduceIte, reduceCtorEq, Nat.reduceAdd, Nat.reduceSub, Nat.reduceEqDiff, Nat.reduceLeDiff, Nat.reduceBEq]
    refine Ev.bind ht ?_
    simp -implicitDefEqProofs (disch := omega) only [go_sem, ↓reduceIte, reduceCtorEq, Nat.reduceAdd, Nat.reduceSub, Nat.reduceEqDiff, Nat.reduceLeDiff, Nat.reduceBEq]
    refine Ev.bind sg ?_
    simp -implicitDefEqProofs (disch := omega) only [go_sem, ↓reduceIte, reduceCtorEq, Nat.reduceAdd, Nat.reduceSub, Nat.reduceEqDiff, Nat.reduceLeDiff, Nat.reduceBEq]
    exact Ev.ret _
  · rw [if_neg h0]
    have : 0 ≤ icmp (iv b l) 0 := icmp_nonneg.2 (by omega)
    refine Ev.call rfl tab63 ?_
    simp -implicitDefEqProofs (disch := omega) only [F63, go_sem, ↓reduceIte, reduceCtorEq, Nat.reduceAdd, Nat.reduceSub, Nat.reduceEqDiff, Nat.reduceLeDiff, Nat.reduceBEq]
    refine Ev.bind ht ?_
    simp -implicitDefEqProofs (disch := omega) only [go_sem, ↓reduceIte, reduceCtorEq, Nat.reduceAdd, Nat.reduceSub, Nat.reduceEqDiff, Nat.reduceLeDiff, Nat.reduceBEq]
    refine Ev.bind sg ?_
    simp -implicitDefEqProofs (disch := omega) only [go_sem, ↓reduceIte, reduceCtorEq, Nat.reduceAdd, Nat.reduceSub, Nat.reduceEqDiff, Nat.reduceLeDiff, Nat.reduceBEq]
    exact Ev.ret _
/-! texts -/
theorem hasPrefix_ev (s p : List UInt8) (hs : s.length ≤ 4000000000) (hp : p.length ≤ 4000000000) : Ev (fun k => (lvl tab ext k).call 114 [(.pv (.str (s))), (.pv (.str (p)))]) [(.pv (.bool (decide (s.take p.length = p))))] := by
  by_cases h : p.length ≤ s.length
  · by_cases he : s.take p.length = p
    · have t : (s.take p.length = p) = True := tt he
      refine Ev.call rfl tab114 ?_
      simp -implicitDefEqProofs (disch := omega) only [F114, t, go_sem, ↓reduceIte, reduceCtorEq, Nat.reduceAdd, Nat.reduceSub, Nat.reduceEqDiff, Nat.reduceLeDiff, Nat.reduceBEq]
      exact Ev.ret _
    · have t : (s.take p.length = p) = False := ff he
      refine Ev.call rfl tab114 ?_
      simp -implicitDefEqProofs (disch := omega) only [F114, t, go_sem, ↓reduceIte, reduceCtorEq, Nat.reduceAdd, Nat.reduceSub, Nat.reduceEqDiff, Nat.reduceLeDiff, Nat.reduceBEq]
      exact Ev.ret _
  · have t : (s.take p.length = p) = False := ff (fun e => by have := congrArg List.length e; rw [List.length_take] at this; omega)
    refine Ev.call rfl tab114 ?_
    simp -implicitDefEqProofs (disch := omega) only [F114, t, go_sem, ↓reduceIte, reduceCtorEq, Nat.reduceAdd, Nat.reduceSub, Nat.reduceEqDiff, Nat.reduceLeDiff, Nat.reduceBEq]
    exact Ev.ret _
theorem cutPrefix_ev (s p : List UInt8) (hs : s.length ≤ 4000000000) (hp : p.length ≤ 4000000000) : Ev (fun k => (lvl tab ext k).call 103 [(.pv (.str (s))), (.pv (.str (p)))]) [(.pv (.str (if s.take p.length = p then s.drop p.length else s))), (.pv (.bool (decide (s.take p.length = p))))] := by
  have hpx := hasPrefix_ev s p hs hp
  by_cases he : s.take p.length = p
  · have hl : p.length ≤ s.length := by have := congrArg List.length he; rw [List.length_take] at this; omega
    rw [decide_eq_true he] at hpx ⊢
    rw [if_pos he]
    have td : (s.drop p.length).take (s.length - p.length) = s.drop p.length := by rw [List.take_of_length_le (by rw [List.length_drop]; omega)]
    refine Ev.call rfl tab103 ?_
    simp -implicitDefEqProofs (disch := omega) only [F103, go_sem, ↓reduceIte, reduceCtorEq, Nat.reduceAdd, Nat.reduceSub, Nat.reduceEqDiff, Nat.reduceLeDiff, Nat.reduceBEq]
    refine Ev.bind (?_ : Ev _ [(.pv (.str (s.drop p.length))), (.pv (.bool (true)))]) ?_
    · refine Ev.call rfl tab109 ?_
      simp -implicitDefEqProofs (disch := omega) only [F109, go_sem, ↓reduceIte, reduceCtorEq, Nat.reduceAdd, Nat.reduceSub, Nat.reduceEqDiff, Nat.reduceLeDiff, Nat.reduceBEq]
      refine Ev.bind hpx ?_
      simp -implicitDefEqProofs (disch := omega) only [td, go_sem, ↓reduceIte, reduceCtorEq, Nat.reduceAdd, Nat.reduceSub, Nat.reduceEqDiff, Nat.reduceLeDiff, Nat.reduceBEq]
      exact Ev.ret _
    · simp -implicitDefEqProofs (disch := omega) only [go_sem, ↓reduceIte, reduceCtorEq, Nat.reduceAdd, Nat.reduceSub, Nat.reduceEqDiff, Nat.reduceLeDiff, Nat.reduceBEq]
      exact Ev.ret _
  · rw [decide_eq_false he] at hpx ⊢
    rw [if_neg he]
    refine Ev.call rfl tab103 ?_
    simp -implicitDefEqProofs (disch := omega) only [F103, go_sem, ↓reduceIte, reduceCtorEq, Nat.reduceAdd, Nat.reduceSub, Nat.reduceEqDiff, Nat.reduceLeDiff, Nat.reduceBEq]
    refine Ev.bind (?_ : Ev _ [(.pv (.str (s))), (.pv (.bool (false)))]) ?_
    · refine Ev.call rfl tab109 ?_
      simp -implicitDefEqProofs (disch := omega) only [F109, go_sem, ↓reduceIte, reduceCtorEq, Nat.reduceAdd, Nat.reduceSub, Nat.reduceEqDiff, Nat.reduceLeDiff, Nat.reduceBEq]
      refine Ev.bind hpx ?_
      simp -implicitDefEqProofs (disch := omega) only [go_sem, ↓reduceIte, reduceCtorEq, Nat.reduceAdd, Nat.reduceSub, Nat.reduceEqDiff, Nat.reduceLeDiff, Nat.reduceBEq]
      exact Ev.ret _
    · simp -implicitDefEqProofs (disch := omega) only [go_sem, ↓reduceIte, reduceCtorEq, Nat.reduceAdd, Nat.reduceSub, Nat.reduceEqDiff, Nat.reduceLeDiff, Nat.reduceBEq]
      exact Ev.ret _
theorem minus_eq (s : List UInt8) : minus s = decide (s.take 1 = [45]) := by
  unfold minus
  cases s with
  | nil => rfl
  | cons c t =>
    rw [show List.take 1 (c :: t) = [c] from rfl, List.length_cons, decide_eq_true (Nat.succ_pos _), Bool.and_true]
    show decide (((c.toNat : Nat) : Int) = 45) = decide ([c] = [45])
    by_cases h : c = 45
    · subst h; rfl
    · rw [decide_eq_false (fun e : [c] = [45] => h (List.cons.inj e).1), decide_eq_false (fun e : ((c.toNat : Nat) : Int) = 45 => h (by
        apply UInt8.toNat_inj.1
        show c.toNat = 45
        omega))]
theorem body_eq (s : List UInt8) : body s = if s.take 1 = [45] then s.drop 1 else s := by
  unfold body
  rw [minus_eq]
  by_cases h : s.take 1 = [45]
  · rw [if_pos h, decide_eq_true h, if_pos rfl]
  · rw [if_neg h, decide_eq_false h, if_neg (by decide)]
theorem body_len (s : List UInt8) : (body s).length ≤ s.length := by
  unfold body
  split
  · rw [List.length_drop]; omega
  · exact Nat.le_refl _
theorem parseN_lt (s : List UInt8) : (ofN (parseN s)).length ≤ 200 := by
  unfold parseN
  split
  · rename_i h
    unfold numT
    have := num_len s.length h.2.2.1
    omega
  · rw [ofN_zero]; decide
theorem ofZ_zero : ofZ 0 = .agg [.bool false, .ints .u32 []] := by unfold ofZ; rw [show (0 : Int).natAbs = 0 from rfl, ofN_zero]; rfl
theorem zparse_ev (s : List UInt8) (hs : s.length ≤ 1000000) : Ev (fun k => (lvl tab ext k).call 69 [(.pv (.str (s)))]) [.pv (ofZ (zN s)), (.pv (.int .i64 (zE s)))] := by
  have hc := cutPrefix_ev s [45] (by omega) (by decide)
  rw [show ([45] : List UInt8).length = 1 from rfl, ← body_eq, ← minus_eq] at hc
  have bl := body_len s
  obtain ⟨o, hp⟩ := parse_ev (body s) (by omega)
  have pl := parseN_lt (body s)
  have hn := norm_ev (lim_ofN (parseN (body s))) (by omega)
  have sg := signed_ev (b := minus s) (lim_ofN (parseN (body s))) (by omega)
  rw [val_ofN] at hn
  rw [iv_norm] at sg
  have hE : zE s = if parseE (body s) = 0 then (if minus s = true ∧ parseN (body s) = 0 then 2 else 0) else parseE (body s) := by
    unfold zE parseE parseN
    by_cases h1 : (body s).length ≤ 200
    · by_cases h2 : Good (body s)
      · simp [h1, h2]
      · simp [h1, h2]
    · simp [h1]
  have hV : parseE (body s) = 0 → numT (body s) = parseN (body s) := by
    unfold parseE parseN
    by_cases h1 : (body s).length ≤ 200
    · by_cases h2 : Good (body s)
      · simp [h1, h2]
      · simp [h1, h2]
    · simp [h1]
  by_cases he : parseE (body s) = 0
  · have hV := hV he
    rw [he, if_pos rfl] at hE
    rw [he] at hp
    clear he
    cases hm : minus s
    · have e1 : zE s = 0 := by rw [hE, hm, if_neg (fun h => by cases h.1)]
      have e2 : zN s = (parseN (body s) : Nat) := by unfold zN; rw [e1, hm, hV]; simp
      rw [e1, e2]
      rw [hm] at hc sg
      clear hE hV e1 e2 hm
      generalize parseN (body s) = n at *
      generalize body s = t at *
      have sg : Ev (fun k => (lvl tab ext k).call 87 [(.pv (.bool (false))), (.pv (.ints .u32 (ofN n)))]) [.pv (ofZ (n : Int))] := sg
      unfold ofZ at sg ⊢
      simp -implicitDefEqProofs (disch := omega) only [go_sem, ↓reduceIte, reduceCtorEq, Nat.reduceAdd, Nat.reduceSub, Nat.reduceEqDiff, Nat.reduceLeDiff, Nat.reduceBEq] at sg
      refine Ev.call rfl tab69 ?_
      simp -implicitDefEqProofs (disch := omega) only [F69, go_sem, ↓reduceIte, reduceCtorEq, Nat.reduceAdd, Nat.reduceSub, Nat.reduceEqDiff, Nat.reduceLeDiff, Nat.reduceBEq]
      refine Ev.bind hc ?_
      simp -implicitDefEqProofs (disch := omega) only [go_sem, ↓reduceIte, reduceCtorEq, Nat.reduceAdd, Nat.reduceSub, Nat.reduceEqDiff, Nat.reduceLeDiff, Nat.reduceBEq]
      refine Ev.bind hp ?_
      simp -implicitDefEqProofs (disch := omega) only [go_sem, ↓reduceIte, reduceCtorEq, Nat.reduceAdd, Nat.reduceSub, Nat.reduceEqDiff, Nat.reduceLeDiff, Nat.reduceBEq]
      refine Ev.bind sg ?_
      simp -implicitDefEqProofs (disch := omega) only [go_sem, ↓reduceIte, reduceCtorEq, Nat.reduceAdd, Nat.reduceSub, Nat.reduceEqDiff, Nat.reduceLeDiff, Nat.reduceBEq]
      exact Ev.ret _
    · by_cases h0 : parseN (body s) = 0
      · have e1 : zE s = 2 := by rw [hE, if_pos ⟨hm, h0⟩]
        have e2 : zN s = 0 := by unfold zN; rw [e1, if_neg (by decide)]
        rw [e1, e2, ofZ_zero]
        rw [h0, ofN_zero] at hp hn
        rw [hm] at hc
        clear hE hV e1 e2 hm h0 sg
        generalize body s = t at *
        refine Ev.call rfl tab69 ?_
        simp -implicitDefEqProofs (disch := omega) only [F69, go_sem, ↓reduceIte, reduceCtorEq, Nat.reduceAdd, Nat.reduceSub, Nat.reduceEqDiff, Nat.reduceLeDiff, Nat.reduceBEq]
        refine Ev.bind hc ?_
        simp -implicitDefEqProofs (disch := omega) only [go_sem, ↓reduceIte, reduceCtorEq, Nat.reduceAdd, Nat.reduceSub, Nat.reduceEqDiff, Nat.reduceLeDiff, Nat.reduceBEq]
        refine Ev.bind hp ?_
        simp -implicitDefEqProofs (disch := omega) only [go_sem, ↓reduceIte, reduceCtorEq, Nat.reduceAdd, Nat.reduceSub, Nat.reduceEqDiff, Nat.reduceLeDiff, Nat.reduceBEq]
        refine Ev.bind hn ?_
        simp -implicitDefEqProofs (disch := omega) only [go_sem, ↓reduceIte, reduceCtorEq, Nat.reduceAdd, Nat.reduceSub, Nat.reduceEqDiff, Nat.reduceLeDiff, Nat.reduceBEq]
        exact Ev.ret _
      · have e1 : zE s = 0 := by rw [hE, if_neg (fun h => h0 h.2)]
        have e2 : zN s = -((parseN (body s) : Nat) : Int) := by unfold zN; rw [e1, hm, hV]; simp
        rw [e1, e2]
        rw [hm] at hc sg
        clear hE hV e1 e2 hm
        generalize parseN (body s) = n at *
        generalize body s = t at *
        have sg : Ev (fun k => (lvl tab ext k).call 87 [(.pv (.bool (true))), (.pv (.ints .u32 (ofN n)))]) [.pv (ofZ (-(n : Int)))] := sg
        have hpos := ofN_length_pos.2 (Nat.pos_of_ne_zero h0)
        unfold ofZ at sg ⊢
        simp -implicitDefEqProofs (disch := omega) only [go_sem, ↓reduceIte, reduceCtorEq, Nat.reduceAdd, Nat.reduceSub, Nat.reduceEqDiff, Nat.reduceLeDiff, Nat.reduceBEq] at sg
        refine Ev.call rfl tab69 ?_
        simp -implicitDefEqProofs (disch := omega) only [F69, go_sem, ↓reduceIte, reduceCtorEq, Nat.reduceAdd, Nat.reduceSub, Nat.reduceEqDiff, Nat.reduceLeDiff, Nat.reduceBEq]
        refine Ev.bind hc ?_
        simp -implicitDefEqProofs (disch := omega) only [go_sem, ↓reduceIte, reduceCtorEq, Nat.reduceAdd, Nat.reduceSub, Nat.reduceEqDiff, Nat.reduceLeDiff, Nat.reduceBEq]
        refine Ev.bind hp ?_
        simp -implicitDefEqProofs (disch := omega) only [go_sem, ↓reduceIte, reduceCtorEq, Nat.reduceAdd, Nat.reduceSub, Nat.reduceEqDiff, Nat.reduceLeDiff, Nat.reduceBEq]
        refine Ev.bind hn ?_
        simp -implicitDefEqProofs (disch := omega) only [go_sem, ↓reduceIte, reduceCtorEq, Nat.reduceAdd, Nat.reduceSub, Nat.reduceEqDiff, Nat.reduceLeDiff, Nat.reduceBEq]
        refine Ev.bind sg ?_
        simp -implicitDefEqProofs (disch := omega) only [go_sem, ↓reduceIte, reduceCtorEq, Nat.reduceAdd, Nat.reduceSub, Nat.reduceEqDiff, Nat.reduceLeDiff, Nat.reduceBEq]
        exact Ev.ret _
  · have e1 : zE s = parseE (body s) := by rw [hE, if_neg he]
    have e2 : zN s = 0 := by unfold zN; rw [e1, if_neg he]
    rw [e1, e2, ofZ_zero]
    generalize parseE (body s) = E at *
    clear hV hE e1 e2
    refine Ev.call rfl tab69 ?_
    simp -implicitDefEqProofs (disch := omega) only [F69, go_sem, ↓reduceIte, reduceCtorEq, Nat.reduceAdd, Nat.reduceSub, Nat.reduceEqDiff, Nat.reduceLeDiff, Nat.reduceBEq]
    refine Ev.bind hc ?_
    simp -implicitDefEqProofs (disch := omega) only [go_sem, ↓reduceIte, reduceCtorEq, Nat.reduceAdd, Nat.reduceSub, Nat.reduceEqDiff, Nat.reduceLeDiff, Nat.reduceBEq]
    refine Ev.bind hp ?_
    simp -implicitDefEqProofs (disch := omega) only [go_sem, ↓reduceIte, reduceCtorEq, Nat.reduceAdd, Nat.reduceSub, Nat.reduceEqDiff, Nat.reduceLeDiff, Nat.reduceBEq]
    exact Ev.ret _
end Go.Proofs.Ytpllmgmcfojmoaa.V
set_option linter.unusedSimpArgs false
set_option linter.unusedVariables false
namespace Go.Proofs.Ytpllmgmcfojmoaa.V
open Go Go.Proofs.Ytpllmgmcfojmoaa.M
theorem make1_ev {b : Bool} {l : List Int} (hl : Lim l) (hs : l.length ≤ 1000000000) : Ev (fun k => (lvl tab ext k).call 91 [(.pv (.bool (b))), (.pv (.ints .u32 (l)))]) [.pv (ofZ (iv b l))] := by
  rw [ofZ_iv]
  have h1 := len_val_le hl
  refine Ev.call rfl tab91 ?_
  simp -implicitDefEqProofs (disch := omega) only [F91, go_sem, ↓reduceIte, reduceCtorEq, Nat.reduceAdd, Nat.reduceSub, Nat.reduceEqDiff, Nat.reduceLeDiff, Nat.reduceBEq]
  refine Ev.bind (rnorm_ev hl hs) ?_
  by_cases hz : 0 < (ofN (val l)).length
  · cases b
    · simp -implicitDefEqProofs (disch := omega) only [go_sem, ↓reduceIte, reduceCtorEq, Nat.reduceAdd, Nat.reduceSub, Nat.reduceEqDiff, Nat.reduceLeDiff, Nat.reduceBEq]
      exact Ev.ret _
    · simp -implicitDefEqProofs (disch := omega) only [go_sem, ↓reduceIte, reduceCtorEq, Nat.reduceAdd, Nat.reduceSub, Nat.reduceEqDiff, Nat.reduceLeDiff, Nat.reduceBEq]
      exact Ev.ret _
  · cases b
    · simp -implicitDefEqProofs (disch := omega) only [go_sem, ↓reduceIte, reduceCtorEq, Nat.reduceAdd, Nat.reduceSub, Nat.reduceEqDiff, Nat.reduceLeDiff, Nat.reduceBEq]
      exact Ev.ret _
    · simp -implicitDefEqProofs (disch := omega) only [go_sem, ↓reduceIte, reduceCtorEq, Nat.reduceAdd, Nat.reduceSub, Nat.reduceEqDiff, Nat.reduceLeDiff, Nat.reduceBEq]
      exact Ev.ret _
theorem yof_ev {n : Int} (h0 : -9223372036854775808 ≤ n) (h1 : n < 9223372036854775808) : Ev (fun k => (lvl tab ext k).call 47 [(.pv (.int .i64 (n)))]) [.pv (ofZ n)] := by
  by_cases h : n < 0
  · have ho := rof_ev (a := -n) (by omega) (by omega)
    rw [show (-n).toNat = n.natAbs from by omega] at ho
    have e : (0 - (n + 1)) % 18446744073709551616 + 1 = -n := by omega
    have e1 : (0 - (n + 1)) % 18446744073709551616 = 0 - (n + 1) := by omega
    have e2 : (0 - (n + 1)) + 1 = -n := by omega
    unfold ofZ
    refine Ev.call rfl tab47 ?_
    simp -implicitDefEqProofs (disch := omega) only [F47, e2, go_sem, ↓reduceIte, reduceCtorEq, Nat.reduceAdd, Nat.reduceSub, Nat.reduceEqDiff, Nat.reduceLeDiff, Nat.reduceBEq]
    refine Ev.bind ho ?_
    simp -implicitDefEqProofs (disch := omega) only [go_sem, ↓reduceIte, reduceCtorEq, Nat.reduceAdd, Nat.reduceSub, Nat.reduceEqDiff, Nat.reduceLeDiff, Nat.reduceBEq]
    exact Ev.ret _
  · have ho := rof_ev (a := n) (by omega) (by omega)
    rw [show n.toNat = n.natAbs from by omega] at ho
    unfold ofZ
    refine Ev.call rfl tab47 ?_
    simp -implicitDefEqProofs (disch := omega) only [F47, go_sem, ↓reduceIte, reduceCtorEq, Nat.reduceAdd, Nat.reduceSub, Nat.reduceEqDiff, Nat.reduceLeDiff, Nat.reduceBEq]
    refine Ev.bind ho ?_
    simp -implicitDefEqProofs (disch := omega) only [go_sem, ↓reduceIte, reduceCtorEq, Nat.reduceAdd, Nat.reduceSub, Nat.reduceEqDiff, Nat.reduceLeDiff, Nat.reduceBEq]
    exact Ev.ret _
theorem ynorm_ev {p : PV} {x : Int} (h : IsZ p x) : Ev (fun k => (lvl tab ext k).call 62 [.pv p]) [.pv (ofZ x)] := by
  obtain ⟨b, l, rfl, hl, hs, rfl⟩ := h
  refine Ev.call rfl tab62 ?_
  simp -implicitDefEqProofs (disch := omega) only [F62, go_sem, ↓reduceIte, reduceCtorEq, Nat.reduceAdd, Nat.reduceSub, Nat.reduceEqDiff, Nat.reduceLeDiff, Nat.reduceBEq]
  refine Ev.bind (make1_ev hl (by omega)) ?_
  unfold ofZ
  simp -implicitDefEqProofs (disch := omega) only [go_sem, ↓reduceIte, reduceCtorEq, Nat.reduceAdd, Nat.reduceSub, Nat.reduceEqDiff, Nat.reduceLeDiff, Nat.reduceBEq]
  exact Ev.ret _
theorem yneg_ev {p : PV} {x : Int} (h : IsZ p x) : Ev (fun k => (lvl tab ext k).call 85 [.pv p]) [.pv (ofZ (-x))] := by
  obtain ⟨b, l, rfl, hl, hs, rfl⟩ := h
  have e : iv (!b) l = -iv b l := by cases b <;> simp [iv]
  have sg := make1_ev (b := !b) hl (by omega)
  rw [e] at sg
  refine Ev.call rfl tab85 ?_
  simp -implicitDefEqProofs (disch := omega) only [F85, go_sem, ↓reduceIte, reduceCtorEq, Nat.reduceAdd, Nat.reduceSub, Nat.reduceEqDiff, Nat.reduceLeDiff, Nat.reduceBEq]
  refine Ev.bind sg ?_
  unfold ofZ
  simp -implicitDefEqProofs (disch := omega) only [go_sem, ↓reduceIte, reduceCtorEq, Nat.reduceAdd, Nat.reduceSub, Nat.reduceEqDiff, Nat.reduceLeDiff, Nat.reduceBEq]
  exact Ev.ret _
theorem ycmp_ev {p q : PV} {x y : Int} (hp : IsZ p x) (hq : IsZ q y) (hx : Sz 1000000 x) (hy : Sz 1000000 y) : Ev (fun k => (lvl tab ext k).call 82 [.pv p, .pv q]) [(.pv (.int .i64 (icmp x y)))] := by
  have n1 := ynorm_ev hp
  have n2 := ynorm_ev hq
  unfold Sz at hx hy
  obtain ⟨b, l, rfl, hl, hs, rfl⟩ := hp
  obtain ⟨c, m, rfl, hm, hs2, rfl⟩ := hq
  generalize iv b l = x at *
  generalize iv c m = y at *
  have c1 := rcmp_ev (lim_ofN x.natAbs) (lim_ofN y.natAbs) (by omega) (by omega)
  have c2 := rcmp_ev (lim_ofN y.natAbs) (lim_ofN x.natAbs) (by omega) (by omega)
  rw [val_ofN, val_ofN, ← icmp_nat] at c1 c2
  unfold ofZ at n1 n2
  by_cases h1 : x < 0
  · by_cases h2 : y < 0
    · rw [show icmp (y.natAbs : Int) (x.natAbs : Int) = icmp x y from by unfold icmp; (repeat' split) <;> omega] at c2
      simp -implicitDefEqProofs (disch := omega) only [go_sem, ↓reduceIte, reduceCtorEq, Nat.reduceAdd, Nat.reduceSub, Nat.reduceEqDiff, Nat.reduceLeDiff, Nat.reduceBEq] at n1 n2
      refine Ev.call rfl tab82 ?_
      simp -implicitDefEqProofs (disch := omega) only [F82, go_sem, ↓reduceIte, reduceCtorEq, Nat.reduceAdd, Nat.reduceSub, Nat.reduceEqDiff, Nat.reduceLeDiff, Nat.reduceBEq]
      refine Ev.bind n1 ?_
      simp -implicitDefEqProofs (disch := omega) only [go_sem, ↓reduceIte, reduceCtorEq, Nat.reduceAdd, Nat.reduceSub, Nat.reduceEqDiff, Nat.reduceLeDiff, Nat.reduceBEq]
      refine Ev.bind n2 ?_
      simp -implicitDefEqProofs (disch := omega) only [go_sem, ↓reduceIte, reduceCtorEq, Nat.reduceAdd, Nat.reduceSub, Nat.reduceEqDiff, Nat.reduceLeDiff, Nat.reduceBEq]
      refine Ev.bind c2 ?_
      simp -implicitDefEqProofs (disch := omega) only [go_sem, ↓reduceIte, reduceCtorEq, Nat.reduceAdd, Nat.reduceSub, Nat.reduceEqDiff, Nat.reduceLeDiff, Nat.reduceBEq]
      exact Ev.ret _
    · rw [icmp_lt (show x < y from by omega)]
      simp -implicitDefEqProofs (disch := omega) only [go_sem, ↓reduceIte, reduceCtorEq, Nat.reduceAdd, Nat.reduceSub, Nat.reduceEqDiff, Nat.reduceLeDiff, Nat.reduceBEq] at n1 n2
      refine Ev.call rfl tab82 ?_
      simp -implicitDefEqProofs (disch := omega) only [F82, go_sem, ↓reduceIte, reduceCtorEq, Nat.reduceAdd, Nat.reduceSub, Nat.reduceEqDiff, Nat.reduceLeDiff, Nat.reduceBEq]
      refine Ev.bind n1 ?_
      simp -implicitDefEqProofs (disch := omega) only [go_sem, ↓reduceIte, reduceCtorEq, Nat.reduceAdd, Nat.reduceSub, Nat.reduceEqDiff, Nat.reduceLeDiff, Nat.reduceBEq]
      refine Ev.bind n2 ?_
      simp -implicitDefEqProofs (disch := omega) only [go_sem, ↓reduceIte, reduceCtorEq, Nat.reduceAdd, Nat.reduceSub, Nat.reduceEqDiff, Nat.reduceLeDiff, Nat.reduceBEq]
      exact Ev.ret _
  · by_cases h2 : y < 0
    · rw [icmp_gt (show y < x from by omega)]
      simp -implicitDefEqProofs (disch := omega) only [go_sem, ↓reduceIte, reduceCtorEq, Nat.reduceAdd, Nat.reduceSub, Nat.reduceEqDiff, Nat.reduceLeDiff, Nat.reduceBEq] at n1 n2
      refine Ev.call rfl tab82 ?_
      simp -implicitDefEqProofs (disch := omega) only [F82, go_sem, ↓reduceIte, reduceCtorEq, Nat.reduceAdd, Nat.reduceSub, Nat.reduceEqDiff, Nat.reduceLeDiff, Nat.reduceBEq]
      refine Ev.bind n1 ?_
      simp -implicitDefEqProofs (disch := omega) only [go_sem, ↓reduceIte, reduceCtorEq, Nat.reduceAdd, Nat.reduceSub, Nat.reduceEqDiff, Nat.reduceLeDiff, Nat.reduceBEq]
      refine Ev.bind n2 ?_
      simp -implicitDefEqProofs (disch := omega) only [go_sem, ↓reduceIte, reduceCtorEq, Nat.reduceAdd, Nat.reduceSub, Nat.reduceEqDiff, Nat.reduceLeDiff, Nat.reduceBEq]
      exact Ev.ret _
    · rw [show icmp (x.natAbs : Int) (y.natAbs : Int) = icmp x y from by unfold icmp; (repeat' split) <;> omega] at c1
      simp -implicitDefEqProofs (disch := omega) only [go_sem, ↓reduceIte, reduceCtorEq, Nat.reduceAdd, Nat.reduceSub, Nat.reduceEqDiff, Nat.reduceLeDiff, Nat.reduceBEq] at n1 n2
      refine Ev.call rfl tab82 ?_
      simp -implicitDefEqProofs (disch := omega) only [F82, go_sem, ↓reduceIte, reduceCtorEq, Nat.reduceAdd, Nat.reduceSub, Nat.reduceEqDiff, Nat.reduceLeDiff, Nat.reduceBEq]
      refine Ev.bind n1 ?_
      simp -implicitDefEqProofs (disch := omega) only [go_sem, ↓reduceIte, reduceCtorEq, Nat.reduceAdd, Nat.reduceSub, Nat.reduceEqDiff, Nat.reduceLeDiff, Nat.reduceBEq]
      refine Ev.bind n2 ?_
      simp -implicitDefEqProofs (disch := omega) only [go_sem, ↓reduceIte, reduceCtorEq, Nat.reduceAdd, Nat.reduceSub, Nat.reduceEqDiff, Nat.reduceLeDiff, Nat.reduceBEq]
      refine Ev.bind c1 ?_
      simp -implicitDefEqProofs (disch := omega) only [go_sem, ↓reduceIte, reduceCtorEq, Nat.reduceAdd, Nat.reduceSub, Nat.reduceEqDiff, Nat.reduceLeDiff, Nat.reduceBEq]
      exact Ev.ret _
theorem yadd_ev {p q : PV} {x y : Int} (hp : IsZ p x) (hq : IsZ q y) : Ev (fun k => (lvl tab ext k).call 86 [.pv p, .pv q]) [.pv (ofZ (x + y))] := by
  obtain ⟨b, l, rfl, hl, hs, rfl⟩ := hp
  obtain ⟨c, m, rfl, hm, hs2, rfl⟩ := hq
  have hA := radd_ev hl hm (by omega) (by omega)
  have hS1 := rsub_ev hl hm (by omega) (by omega)
  have hS2 := rsub_ev hm hl (by omega) (by omega)
  have l1 := len_val_le hl
  have l2 := len_val_le hm
  have l3 := len_add (val l) (val m)
  by_cases hbc : b = c
  · subst hbc
    have sg := make1_ev (b := b) (lim_ofN (val l + val m)) (by omega)
    rw [iv_norm, show (if b = true then -((val l + val m : Nat) : Int) else ((val l + val m : Nat) : Int)) = iv b l + iv b m from by cases b <;> simp [iv] <;> omega] at sg
    have ht : (b = b) = True := eq_self b
    refine Ev.call rfl tab86 ?_
    simp -implicitDefEqProofs (disch := omega) only [F86, go_sem, ↓reduceIte, reduceCtorEq, Nat.reduceAdd, Nat.reduceSub, Nat.reduceEqDiff, Nat.reduceLeDiff, Nat.reduceBEq]
    refine Ev.bind hA ?_
    simp -implicitDefEqProofs (disch := omega) only [go_sem, ↓reduceIte, reduceCtorEq, Nat.reduceAdd, Nat.reduceSub, Nat.reduceEqDiff, Nat.reduceLeDiff, Nat.reduceBEq]
    refine Ev.bind sg ?_
    unfold ofZ
    simp -implicitDefEqProofs (disch := omega) only [go_sem, ↓reduceIte, reduceCtorEq, Nat.reduceAdd, Nat.reduceSub, Nat.reduceEqDiff, Nat.reduceLeDiff, Nat.reduceBEq]
    exact Ev.ret _
  · have hf : (b = c) = False := ff hbc
    by_cases hlt : val l < val m
    · rw [decide_eq_false (by omega)] at hS1
      have sg := make1_ev (b := c) (lim_ofN (val m - val l)) (by have := len_mono (Nat.sub_le (val m) (val l)); omega)
      rw [iv_norm, show (if c = true then -((val m - val l : Nat) : Int) else ((val m - val l : Nat) : Int)) = iv b l + iv c m from by cases b <;> cases c <;> simp [iv] at * <;> omega] at sg
      refine Ev.call rfl tab86 ?_
      simp -implicitDefEqProofs (disch := omega) only [F86, hf, go_sem, ↓reduceIte, reduceCtorEq, Nat.reduceAdd, Nat.reduceSub, Nat.reduceEqDiff, Nat.reduceLeDiff, Nat.reduceBEq]
      refine Ev.bind hS1 ?_
      simp -implicitDefEqProofs (disch := omega) only [go_sem, ↓reduceIte, reduceCtorEq, Nat.reduceAdd, Nat.reduceSub, Nat.reduceEqDiff, Nat.reduceLeDiff, Nat.reduceBEq]
      refine Ev.bind hS2 ?_
      simp -implicitDefEqProofs (disch := omega) only [go_sem, ↓reduceIte, reduceCtorEq, Nat.reduceAdd, Nat.reduceSub, Nat.reduceEqDiff, Nat.reduceLeDiff, Nat.reduceBEq]
      refine Ev.bind sg ?_
      unfold ofZ
      simp -implicitDefEqProofs (disch := omega) only [go_sem, ↓reduceIte, reduceCtorEq, Nat.reduceAdd, Nat.reduceSub, Nat.reduceEqDiff, Nat.reduceLeDiff, Nat.reduceBEq]
      exact Ev.ret _
    · rw [decide_eq_true (by omega)] at hS1
      have sg := make1_ev (b := b) (lim_ofN (val l - val m)) (by have := len_mono (Nat.sub_le (val l) (val m)); omega)
      rw [iv_norm, show (if b = true then -((val l - val m : Nat) : Int) else ((val l - val m : Nat) : Int)) = iv b l + iv c m from by cases b <;> cases c <;> simp [iv] at * <;> omega] at sg
      refine Ev.call rfl tab86 ?_
      simp -implicitDefEqProofs (disch := omega) only [F86, hf, go_sem, ↓reduceIte, reduceCtorEq, Nat.reduceAdd, Nat.reduceSub, Nat.reduceEqDiff, Nat.reduceLeDiff, Nat.reduceBEq]
      refine Ev.bind hS1 ?_
      simp -implicitDefEqProofs (disch := omega) only [go_sem, ↓reduceIte, reduceCtorEq, Nat.reduceAdd, Nat.reduceSub, Nat.reduceEqDiff, Nat.reduceLeDiff, Nat.reduceBEq]
      refine Ev.bind sg ?_
      unfold ofZ
      simp -implicitDefEqProofs (disch := omega) only [go_sem, ↓reduceIte, reduceCtorEq, Nat.reduceAdd, Nat.reduceSub, Nat.reduceEqDiff, Nat.reduceLeDiff, Nat.reduceBEq]
      exact Ev.ret _
theorem ymul_ev {p q : PV} {x y : Int} (hp : IsZ p x) (hq : IsZ q y) : Ev (fun k => (lvl tab ext k).call 83 [.pv p, .pv q]) [.pv (ofZ (x * y))] := by
  obtain ⟨b, l, rfl, hl, hs, rfl⟩ := hp
  obtain ⟨c, m, rfl, hm, hs2, rfl⟩ := hq
  have hM := rmul_ev hl hm (by omega)
  have l1 := len_val_le hl
  have l2 := len_val_le hm
  have l3 := len_mul (val l) (val m)
  have sg := make1_ev (b := decide (¬ b = c)) (lim_ofN (val l * val m)) (by omega)
  rw [iv_norm, show (if decide (¬ b = c) = true then -((val l * val m : Nat) : Int) else ((val l * val m : Nat) : Int)) = iv b l * iv c m from by cases b <;> cases c <;> simp [iv, Int.neg_mul, Int.mul_neg]] at sg
  refine Ev.call rfl tab83 ?_
  simp -implicitDefEqProofs (disch := omega) only [F83, go_sem, ↓reduceIte, reduceCtorEq, Nat.reduceAdd, Nat.reduceSub, Nat.reduceEqDiff, Nat.reduceLeDiff, Nat.reduceBEq]
  refine Ev.bind hM ?_
  simp -implicitDefEqProofs (disch := omega) only [go_sem, ↓reduceIte, reduceCtorEq, Nat.reduceAdd, Nat.reduceSub, Nat.reduceEqDiff, Nat.reduceLeDiff, Nat.reduceBEq]
  refine Ev.bind sg ?_
  unfold ofZ
  simp -implicitDefEqProofs (disch := omega) only [go_sem, ↓reduceIte, reduceCtorEq, Nat.reduceAdd, Nat.reduceSub, Nat.reduceEqDiff, Nat.reduceLeDiff, Nat.reduceBEq]
  exact Ev.ret _
theorem ofZ_inj {x y : Int} : (decide (x < 0) = decide (y < 0) ∧ ofN x.natAbs = ofN y.natAbs) ↔ x = y := by
  constructor
  · rintro ⟨h1, h2⟩
    have h3 := ofN_inj h2
    by_cases hx : x < 0
    · rw [decide_eq_true hx] at h1
      have := of_decide_eq_true h1.symm
      omega
    · rw [decide_eq_false hx] at h1
      have := of_decide_eq_false h1.symm
      omega
  · rintro rfl
    exact ⟨rfl, rfl⟩
end Go.Proofs.Ytpllmgmcfojmoaa.V
set_option linter.unusedSimpArgs false
set_option linter.unusedVariables false
namespace Go.Proofs.Ytpllmgmcfojmoaa.V
open Go Go.Proofs.Ytpllmgmcfojmoaa.M
theorem ofZ_nought : ofZ 0 = .agg [.bool false, .ints .u32 []] := by unfold ofZ; rw [show (0 : Int).natAbs = 0 from rfl, ofN_zero]; rfl
theorem ydm0_ev {p q : PV} {x : Int} (hp : IsZ p x) (hq : IsZ q 0) (hx : Sz 1000000 x) : Ev (fun k => (lvl tab ext k).call 52 [.pv p, .pv q]) [.pv (ofZ 0), .pv (ofZ 0), (.pv (.bool (false)))] := by
  have n1 := ynorm_ev hp
  have n2 := ynorm_ev hq
  rw [ofZ_nought] at n2 ⊢
  have hd := rdivmod0_ev (lim_ofN x.natAbs) (b := []) lim_nil (by decide) rfl
  obtain ⟨b, l, rfl, hl, hs, rfl⟩ := hp
  obtain ⟨c, m, rfl, hm, hs2, he⟩ := hq
  generalize iv b l = x at *
  unfold ofZ at n1
  refine Ev.call rfl tab52 ?_
  simp -implicitDefEqProofs (disch := omega) only [F52, go_sem, ↓reduceIte, reduceCtorEq, Nat.reduceAdd, Nat.reduceSub, Nat.reduceEqDiff, Nat.reduceLeDiff, Nat.reduceBEq]
  refine Ev.bind n1 ?_
  simp -implicitDefEqProofs (disch := omega) only [go_sem, ↓reduceIte, reduceCtorEq, Nat.reduceAdd, Nat.reduceSub, Nat.reduceEqDiff, Nat.reduceLeDiff, Nat.reduceBEq]
  refine Ev.bind n2 ?_
  simp -implicitDefEqProofs (disch := omega) only [go_sem, ↓reduceIte, reduceCtorEq, Nat.reduceAdd, Nat.reduceSub, Nat.reduceEqDiff, Nat.reduceLeDiff, Nat.reduceBEq]
  refine Ev.bind hd ?_
  simp -implicitDefEqProofs (disch := omega) only [go_sem, ↓reduceIte, reduceCtorEq, Nat.reduceAdd, Nat.reduceSub, Nat.reduceEqDiff, Nat.reduceLeDiff, Nat.reduceBEq]
  exact Ev.ret _
theorem ydivmod_ev {p q : PV} {x y : Int} (hp : IsZ p x) (hq : IsZ q y) (hy : y ≠ 0) (hx1 : Sz 1000000 x) (hy1 : Sz 1000000 y) : Ev (fun k => (lvl tab ext k).call 52 [.pv p, .pv q]) [.pv (ofZ (x / y)), .pv (ofZ (x % y)), (.pv (.bool (true)))] := by
  have n1 := ynorm_ev hp
  have n2 := ynorm_ev hq
  unfold Sz at hx1 hy1
  obtain ⟨b, l, rfl, hl, hs, rfl⟩ := hp
  obtain ⟨c, m, rfl, hm, hs2, rfl⟩ := hq
  generalize iv b l = x at *
  generalize iv c m = y at *
  have hv0 : y.natAbs ≠ 0 := by omega
  have hd := rdivmod_ev (lim_ofN x.natAbs) (lim_ofN y.natAbs) (by omega) (by omega) (by rw [val_ofN]; exact hv0)
  rw [val_ofN, val_ofN] at hd
  have l3 := len_mono (Nat.div_le_self x.natAbs y.natAbs)
  have l4 := len_mono (Nat.le_of_lt (Nat.mod_lt x.natAbs (Nat.pos_of_ne_zero hv0)))
  have hdm := Nat.div_add_mod x.natAbs y.natAbs
  have hlt := Nat.mod_lt x.natAbs (Nat.pos_of_ne_zero hv0)
  generalize hQ : x.natAbs / y.natAbs = Q at *
  generalize hR : x.natAbs % y.natAbs = R at *
  have hdm' : (y.natAbs : Int) * (Q : Int) + (R : Int) = (x.natAbs : Int) := by rw [← hdm]; simp
  have hnr := rnorm_ev (lim_ofN R) (by omega)
  rw [val_ofN] at hnr
  by_cases hx : x < 0
  · by_cases hR0 : R = 0
    · subst hR0
      have key : x / y = (if y < 0 then (Q : Int) else -(Q : Int)) ∧ x % y = 0 := by
        refine zdm hy ?_ (by omega) (by omega)
        by_cases h : y < 0
        · rw [if_pos h, show y = -(y.natAbs : Int) from by omega, Int.neg_mul]; omega
        · rw [if_neg h, show y = (y.natAbs : Int) from by omega, Int.mul_neg]; omega
      rw [key.1, key.2]
      have m2 := make1_ev (b := false) (l := []) lim_nil (by decide)
      rw [show iv false [] = 0 from rfl] at m2
      rw [ofN_zero] at hd hnr
      by_cases h : y < 0
      · have m1 := make1_ev (b := false) (lim_ofN Q) (by omega)
        rw [iv_norm, if_neg (by decide)] at m1
        rw [if_pos h]
        clear key hdm hdm' hQ hR
        unfold ofZ at n1 n2 m1 m2 ⊢
        simp -implicitDefEqProofs (disch := omega) only [go_sem, ↓reduceIte, reduceCtorEq, Nat.reduceAdd, Nat.reduceSub, Nat.reduceEqDiff, Nat.reduceLeDiff, Nat.reduceBEq] at n1 n2 m1 m2
        refine Ev.call rfl tab52 ?_
        simp -implicitDefEqProofs (disch := omega) only [F52, go_sem, ↓reduceIte, reduceCtorEq, Nat.reduceAdd, Nat.reduceSub, Nat.reduceEqDiff, Nat.reduceLeDiff, Nat.reduceBEq]
        refine Ev.bind n1 ?_
        simp -implicitDefEqProofs (disch := omega) only [go_sem, ↓reduceIte, reduceCtorEq, Nat.reduceAdd, Nat.reduceSub, Nat.reduceEqDiff, Nat.reduceLeDiff, Nat.reduceBEq]
        refine Ev.bind n2 ?_
        simp -implicitDefEqProofs (disch := omega) only [go_sem, ↓reduceIte, reduceCtorEq, Nat.reduceAdd, Nat.reduceSub, Nat.reduceEqDiff, Nat.reduceLeDiff, Nat.reduceBEq]
        refine Ev.bind hd ?_
        simp -implicitDefEqProofs (disch := omega) only [go_sem, ↓reduceIte, reduceCtorEq, Nat.reduceAdd, Nat.reduceSub, Nat.reduceEqDiff, Nat.reduceLeDiff, Nat.reduceBEq]
        refine Ev.bind hnr ?_
        simp -implicitDefEqProofs (disch := omega) only [go_sem, ↓reduceIte, reduceCtorEq, Nat.reduceAdd, Nat.reduceSub, Nat.reduceEqDiff, Nat.reduceLeDiff, Nat.reduceBEq]
        refine Ev.bind m1 ?_
        simp -implicitDefEqProofs (disch := omega) only [go_sem, ↓reduceIte, reduceCtorEq, Nat.reduceAdd, Nat.reduceSub, Nat.reduceEqDiff, Nat.reduceLeDiff, Nat.reduceBEq]
        refine Ev.bind m2 ?_
        simp -implicitDefEqProofs (disch := omega) only [go_sem, ↓reduceIte, reduceCtorEq, Nat.reduceAdd, Nat.reduceSub, Nat.reduceEqDiff, Nat.reduceLeDiff, Nat.reduceBEq]
        exact Ev.ret _
      · have m1 := make1_ev (b := true) (lim_ofN Q) (by omega)
        rw [iv_norm, if_pos rfl] at m1
        rw [if_neg h]
        clear key hdm hdm' hQ hR
        have ht : (true = false) = False := by simp
        unfold ofZ at n1 n2 m1 m2 ⊢
        simp -implicitDefEqProofs (disch := omega) only [go_sem, ↓reduceIte, reduceCtorEq, Nat.reduceAdd, Nat.reduceSub, Nat.reduceEqDiff, Nat.reduceLeDiff, Nat.reduceBEq] at n1 n2 m1 m2
        refine Ev.call rfl tab52 ?_
        simp -implicitDefEqProofs (disch := omega) only [F52, go_sem, ↓reduceIte, reduceCtorEq, Nat.reduceAdd, Nat.reduceSub, Nat.reduceEqDiff, Nat.reduceLeDiff, Nat.reduceBEq]
        refine Ev.bind n1 ?_
        simp -implicitDefEqProofs (disch := omega) only [go_sem, ↓reduceIte, reduceCtorEq, Nat.reduceAdd, Nat.reduceSub, Nat.reduceEqDiff, Nat.reduceLeDiff, Nat.reduceBEq]
        refine Ev.bind n2 ?_
        simp -implicitDefEqProofs (disch := omega) only [go_sem, ↓reduceIte, reduceCtorEq, Nat.reduceAdd, Nat.reduceSub, Nat.reduceEqDiff, Nat.reduceLeDiff, Nat.reduceBEq]
        refine Ev.bind hd ?_
        simp -implicitDefEqProofs (disch := omega) only [go_sem, ↓reduceIte, reduceCtorEq, Nat.reduceAdd, Nat.reduceSub, Nat.reduceEqDiff, Nat.reduceLeDiff, Nat.reduceBEq]
        refine Ev.bind hnr ?_
        simp -implicitDefEqProofs (disch := omega) only [go_sem, ↓reduceIte, reduceCtorEq, Nat.reduceAdd, Nat.reduceSub, Nat.reduceEqDiff, Nat.reduceLeDiff, Nat.reduceBEq]
        refine Ev.bind m1 ?_
        simp -implicitDefEqProofs (disch := omega) only [go_sem, ↓reduceIte, reduceCtorEq, Nat.reduceAdd, Nat.reduceSub, Nat.reduceEqDiff, Nat.reduceLeDiff, Nat.reduceBEq]
        refine Ev.bind m2 ?_
        simp -implicitDefEqProofs (disch := omega) only [go_sem, ↓reduceIte, reduceCtorEq, Nat.reduceAdd, Nat.reduceSub, Nat.reduceEqDiff, Nat.reduceLeDiff, Nat.reduceBEq]
        exact Ev.ret _
    · have key : x / y = (if y < 0 then ((Q + 1 : Nat) : Int) else -((Q + 1 : Nat) : Int)) ∧ x % y = ((y.natAbs - R : Nat) : Int) := by
        refine zdm hy ?_ (by omega) (by omega)
        have e : (y.natAbs : Int) * ((Q + 1 : Nat) : Int) = (y.natAbs : Int) * (Q : Int) + (y.natAbs : Int) := by rw [Int.natCast_add, Int.mul_add]; simp
        by_cases h : y < 0
        · rw [if_pos h]
          have e2 : y * ((Q + 1 : Nat) : Int) = -((y.natAbs : Int) * ((Q + 1 : Nat) : Int)) := by rw [← Int.neg_mul]; congr 1; omega
          rw [e2, e]; omega
        · rw [if_neg h]
          have e2 : y * -((Q + 1 : Nat) : Int) = -((y.natAbs : Int) * ((Q + 1 : Nat) : Int)) := by rw [Int.mul_neg]; congr 2; omega
          rw [e2, e]; omega
      rw [key.1, key.2]
      have hpos := ofN_length_pos.2 (Nat.pos_of_ne_zero hR0)
      have ho := rof_ev (a := 1) (by decide) (by decide)
      rw [show (1 : Int).toNat = 1 from rfl] at ho
      have s1 := len_small (n := 1) (by decide)
      have ha := radd_ev (lim_ofN Q) (lim_ofN 1) (by omega) (by omega)
      rw [val_ofN, val_ofN] at ha
      have s2 := len_add Q 1
      have hs := rsub_ev (lim_ofN y.natAbs) (lim_ofN R) (by omega) (by omega)
      rw [val_ofN, val_ofN, decide_eq_true (by omega)] at hs
      have s3 := len_mono (Nat.sub_le y.natAbs R)
      have m2 := make1_ev (b := false) (lim_ofN (y.natAbs - R)) (by omega)
      rw [iv_norm, if_neg (by decide)] at m2
      by_cases h : y < 0
      · have m1 := make1_ev (b := false) (lim_ofN (Q + 1)) (by omega)
        rw [iv_norm, if_neg (by decide)] at m1
        rw [if_pos h]
        clear key hdm hdm' hQ hR
        unfold ofZ at n1 n2 m1 m2 ⊢
        simp -implicitDefEqProofs (disch := omega) only [go_sem, ↓reduceIte, reduceCtorEq, Nat.reduceAdd, Nat.reduceSub, Nat.reduceEqDiff, Nat.reduceLeDiff, Nat.reduceBEq] at n1 n2 m1 m2
        refine Ev.call rfl tab52 ?_
        simp -implicitDefEqProofs (disch := omega) only [F52, go_sem, ↓reduceIte, reduceCtorEq, Nat.reduceAdd, Nat.reduceSub, Nat.reduceEqDiff, Nat.reduceLeDiff, Nat.reduceBEq]
        refine Ev.bind n1 ?_
        simp -implicitDefEqProofs (disch := omega) only [go_sem, ↓reduceIte, reduceCtorEq, Nat.reduceAdd, Nat.reduceSub, Nat.reduceEqDiff, Nat.reduceLeDiff, Nat.reduceBEq]
        refine Ev.bind n2 ?_
        simp -implicitDefEqProofs (disch := omega) only [go_sem, ↓reduceIte, reduceCtorEq, Nat.reduceAdd, Nat.reduceSub, Nat.reduceEqDiff, Nat.reduceLeDiff, Nat.reduceBEq]
        refine Ev.bind hd ?_
        simp -implicitDefEqProofs (disch := omega) only [go_sem, ↓reduceIte, reduceCtorEq, Nat.reduceAdd, Nat.reduceSub, Nat.reduceEqDiff, Nat.reduceLeDiff, Nat.reduceBEq]
        refine Ev.bind hnr ?_
        simp -implicitDefEqProofs (disch := omega) only [go_sem, ↓reduceIte, reduceCtorEq, Nat.reduceAdd, Nat.reduceSub, Nat.reduceEqDiff, Nat.reduceLeDiff, Nat.reduceBEq]
        refine Ev.bind ho ?_
        simp -implicitDefEqProofs (disch := omega) only [go_sem, ↓reduceIte, reduceCtorEq, Nat.reduceAdd, Nat.reduceSub, Nat.reduceEqDiff, Nat.reduceLeDiff, Nat.reduceBEq]
        refine Ev.bind ha ?_
        simp -implicitDefEqProofs (disch := omega) only [go_sem, ↓reduceIte, reduceCtorEq, Nat.reduceAdd, Nat.reduceSub, Nat.reduceEqDiff, Nat.reduceLeDiff, Nat.reduceBEq]
        refine Ev.bind hs ?_
        simp -implicitDefEqProofs (disch := omega) only [go_sem, ↓reduceIte, reduceCtorEq, Nat.reduceAdd, Nat.reduceSub, Nat.reduceEqDiff, Nat.reduceLeDiff, Nat.reduceBEq]
        refine Ev.bind m1 ?_
        simp -implicitDefEqProofs (disch := omega) only [go_sem, ↓reduceIte, reduceCtorEq, Nat.reduceAdd, Nat.reduceSub, Nat.reduceEqDiff, Nat.reduceLeDiff, Nat.reduceBEq]
        refine Ev.bind m2 ?_
        simp -implicitDefEqProofs (disch := omega) only [go_sem, ↓reduceIte, reduceCtorEq, Nat.reduceAdd, Nat.reduceSub, Nat.reduceEqDiff, Nat.reduceLeDiff, Nat.reduceBEq]
        exact Ev.ret _
      · have m1 := make1_ev (b := true) (lim_ofN (Q + 1)) (by omega)
        rw [iv_norm, if_pos rfl] at m1
        rw [if_neg h]
        clear key hdm hdm' hQ hR
        unfold ofZ at n1 n2 m1 m2 ⊢
        simp -implicitDefEqProofs (disch := omega) only [go_sem, ↓reduceIte, reduceCtorEq, Nat.reduceAdd, Nat.reduceSub, Nat.reduceEqDiff, Nat.reduceLeDiff, Nat.reduceBEq] at n1 n2 m1 m2
        refine Ev.call rfl tab52 ?_
        simp -implicitDefEqProofs (disch := omega) only [F52, go_sem, ↓reduceIte, reduceCtorEq, Nat.reduceAdd, Nat.reduceSub, Nat.reduceEqDiff, Nat.reduceLeDiff, Nat.reduceBEq]
        refine Ev.bind n1 ?_
        simp -implicitDefEqProofs (disch := omega) only [go_sem, ↓reduceIte, reduceCtorEq, Nat.reduceAdd, Nat.reduceSub, Nat.reduceEqDiff, Nat.reduceLeDiff, Nat.reduceBEq]
        refine Ev.bind n2 ?_
        simp -implicitDefEqProofs (disch := omega) only [go_sem, ↓reduceIte, reduceCtorEq, Nat.reduceAdd, Nat.reduceSub, Nat.reduceEqDiff, Nat.reduceLeDiff, Nat.reduceBEq]
        refine Ev.bind hd ?_
        simp -implicitDefEqProofs (disch := omega) only [go_sem, ↓reduceIte, reduceCtorEq, Nat.reduceAdd, Nat.reduceSub, Nat.reduceEqDiff, Nat.reduceLeDiff, Nat.reduceBEq]
        refine Ev.bind hnr ?_
        simp -implicitDefEqProofs (disch := omega) only [go_sem, ↓reduceIte, reduceCtorEq, Nat.reduceAdd, Nat.reduceSub, Nat.reduceEqDiff, Nat.reduceLeDiff, Nat.reduceBEq]
        refine Ev.bind ho ?_
        simp -implicitDefEqProofs (disch := omega) only [go_sem, ↓reduceIte, reduceCtorEq, Nat.reduceAdd, Nat.reduceSub, Nat.reduceEqDiff, Nat.reduceLeDiff, Nat.reduceBEq]
        refine Ev.bind ha ?_
        simp -implicitDefEqProofs (disch := omega) only [go_sem, ↓reduceIte, reduceCtorEq, Nat.reduceAdd, Nat.reduceSub, Nat.reduceEqDiff, Nat.reduceLeDiff, Nat.reduceBEq]
        refine Ev.bind hs ?_
        simp -implicitDefEqProofs (disch := omega) only [go_sem, ↓reduceIte, reduceCtorEq, Nat.reduceAdd, Nat.reduceSub, Nat.reduceEqDiff, Nat.reduceLeDiff, Nat.reduceBEq]
        refine Ev.bind m1 ?_
        simp -implicitDefEqProofs (disch := omega) only [go_sem, ↓reduceIte, reduceCtorEq, Nat.reduceAdd, Nat.reduceSub, Nat.reduceEqDiff, Nat.reduceLeDiff, Nat.reduceBEq]
        refine Ev.bind m2 ?_
        simp -implicitDefEqProofs (disch := omega) only [go_sem, ↓reduceIte, reduceCtorEq, Nat.reduceAdd, Nat.reduceSub, Nat.reduceEqDiff, Nat.reduceLeDiff, Nat.reduceBEq]
        exact Ev.ret _
  · have key : x / y = (if y < 0 then -(Q : Int) else (Q : Int)) ∧ x % y = (R : Int) := by
      refine zdm hy ?_ (by omega) (by omega)
      by_cases h : y < 0
      · rw [if_pos h, show y = -(y.natAbs : Int) from by omega, Int.neg_mul_neg]; omega
      · rw [if_neg h, show y = (y.natAbs : Int) from by omega]; omega
    rw [key.1, key.2]
    have m2 := make1_ev (b := false) (lim_ofN R) (by omega)
    rw [iv_norm, if_neg (by decide)] at m2
    by_cases h : y < 0
    · have m1 := make1_ev (b := true) (lim_ofN Q) (by omega)
      rw [iv_norm, if_pos rfl] at m1
      rw [if_pos h]
      clear key hdm hdm' hQ hR
      unfold ofZ at n1 n2 m1 m2 ⊢
      simp -implicitDefEqProofs (disch := omega) only [go_sem, ↓reduceIte, reduceCtorEq, Nat.reduceAdd, Nat.reduceSub, Nat.reduceEqDiff, Nat.reduceLeDiff, Nat.reduceBEq] at n1 n2 m1 m2
      refine Ev.call rfl tab52 ?_
      simp -implicitDefEqProofs (disch := omega) only [F52, go_sem, ↓reduceIte, reduceCtorEq, Nat.reduceAdd, Nat.reduceSub, Nat.reduceEqDiff, Nat.reduceLeDiff, Nat.reduceBEq]
      refine Ev.bind n1 ?_
      simp -implicitDefEqProofs (disch := omega) only [go_sem, ↓reduceIte, reduceCtorEq, Nat.reduceAdd, Nat.reduceSub, Nat.reduceEqDiff, Nat.reduceLeDiff, Nat.reduceBEq]
      refine Ev.bind n2 ?_
      simp -implicitDefEqProofs (disch := omega) only [go_sem, ↓reduceIte, reduceCtorEq, Nat.reduceAdd, Nat.reduceSub, Nat.reduceEqDiff, Nat.reduceLeDiff, Nat.reduceBEq]
      refine Ev.bind hd ?_
      simp -implicitDefEqProofs (disch := omega) only [go_sem, ↓reduceIte, reduceCtorEq, Nat.reduceAdd, Nat.reduceSub, Nat.reduceEqDiff, Nat.reduceLeDiff, Nat.reduceBEq]
      refine Ev.bind m1 ?_
      simp -implicitDefEqProofs (disch := omega) only [go_sem, ↓reduceIte, reduceCtorEq, Nat.reduceAdd, Nat.reduceSub, Nat.reduceEqDiff, Nat.reduceLeDiff, Nat.reduceBEq]
      refine Ev.bind m2 ?_
      simp -implicitDefEqProofs (disch := omega) only [go_sem, ↓reduceIte, reduceCtorEq, Nat.reduceAdd, Nat.reduceSub, Nat.reduceEqDiff, Nat.reduceLeDiff, Nat.reduceBEq]
      exact Ev.ret _
    · have m1 := make1_ev (b := false) (lim_ofN Q) (by omega)
      rw [iv_norm, if_neg (by decide)] at m1
      rw [if_neg h]
      clear key hdm hdm' hQ hR
      unfold ofZ at n1 n2 m1 m2 ⊢
      simp -implicitDefEqProofs (disch := omega) only [go_sem, ↓reduceIte, reduceCtorEq, Nat.reduceAdd, Nat.reduceSub, Nat.reduceEqDiff, Nat.reduceLeDiff, Nat.reduceBEq] at n1 n2 m1 m2
      refine Ev.call rfl tab52 ?_
      simp -implicitDefEqProofs (disch := omega) only [F52, go_sem, ↓reduceIte, reduceCtorEq, Nat.reduceAdd, Nat.reduceSub, Nat.reduceEqDiff, Nat.reduceLeDiff, Nat.reduceBEq]
      refine Ev.bind n1 ?_
      simp -implicitDefEqProofs (disch := omega) only [go_sem, ↓reduceIte, reduceCtorEq, Nat.reduceAdd, Nat.reduceSub, Nat.reduceEqDiff, Nat.reduceLeDiff, Nat.reduceBEq]
      refine Ev.bind n2 ?_
      simp -implicitDefEqProofs (disch := omega) only [go_sem, ↓reduceIte, reduceCtorEq, Nat.reduceAdd, Nat.reduceSub, Nat.reduceEqDiff, Nat.reduceLeDiff, Nat.reduceBEq]
      refine Ev.bind hd ?_
      simp -implicitDefEqProofs (disch := omega) only [go_sem, ↓reduceIte, reduceCtorEq, Nat.reduceAdd, Nat.reduceSub, Nat.reduceEqDiff, Nat.reduceLeDiff, Nat.reduceBEq]
      refine Ev.bind m1 ?_
      simp -implicitDefEqProofs (disch := omega) only [go_sem, ↓reduceIte, reduceCtorEq, Nat.reduceAdd, Nat.reduceSub, Nat.reduceEqDiff, Nat.reduceLeDiff, Nat.reduceBEq]
      refine Ev.bind m2 ?_
      simp -implicitDefEqProofs (disch := omega) only [go_sem, ↓reduceIte, reduceCtorEq, Nat.reduceAdd, Nat.reduceSub, Nat.reduceEqDiff, Nat.reduceLeDiff, Nat.reduceBEq]
      exact Ev.ret _
/-! Small -/
theorem ytext_ev {p : PV} {x : Int} (h : IsZ p x) (hx : Sz 1000000 x) : Ev (fun k => (lvl tab ext k).call 67 [.pv p]) [(.pv (.str (textZ x)))] := by
  have hn := ynorm_ev h
  unfold Sz at hx
  obtain ⟨b, l, rfl, hl, hs, rfl⟩ := h
  generalize iv b l = x at *
  have ht := rtext_ev (lim_ofN x.natAbs) (by omega)
  rw [val_ofN] at ht
  have tl := textN_len x.natAbs
  unfold textZ
  unfold ofZ at hn
  generalize textN x.natAbs = t at *
  by_cases h0 : x < 0
  · rw [if_pos h0]
    simp -implicitDefEqProofs (disch := omega) only [go_sem, ↓reduceIte, reduceCtorEq, Nat.reduceAdd, Nat.reduceSub, Nat.reduceEqDiff, Nat.reduceLeDiff, Nat.reduceBEq] at hn
    refine Ev.call rfl tab67 ?_
    simp -implicitDefEqProofs (disch := omega) only [F67, go_sem, ↓reduceIte, reduceCtorEq, Nat.reduceAdd, Nat.reduceSub, Nat.reduceEqDiff, Nat.reduceLeDiff, Nat.reduceBEq]
    refine Ev.bind hn ?_
    simp -implicitDefEqProofs (disch := omega) only [go_sem, ↓reduceIte, reduceCtorEq, Nat.reduceAdd, Nat.reduceSub, Nat.reduceEqDiff, Nat.reduceLeDiff, Nat.reduceBEq]
    refine Ev.bind ht ?_
    simp -implicitDefEqProofs (disch := omega) only [go_sem, ↓reduceIte, reduceCtorEq, Nat.reduceAdd, Nat.reduceSub, Nat.reduceEqDiff, Nat.reduceLeDiff, Nat.reduceBEq]
    exact Ev.ret _
  · rw [if_neg h0]
    simp -implicitDefEqProofs (disch := omega) only [go_sem, ↓reduceIte, reduceCtorEq, Nat.reduceAdd, Nat.reduceSub, Nat.reduceEqDiff, Nat.reduceLeDiff, Nat.reduceBEq] at hn
    refine Ev.call rfl tab67 ?_
    simp -implicitDefEqProofs (disch := omega) only [F67, go_sem, ↓reduceIte, reduceCtorEq, Nat.reduceAdd, Nat.reduceSub, Nat.reduceEqDiff, Nat.reduceLeDiff, Nat.reduceBEq]
    refine Ev.bind hn ?_
    simp -implicitDefEqProofs (disch := omega) only [go_sem, ↓reduceIte, reduceCtorEq, Nat.reduceAdd, Nat.reduceSub, Nat.reduceEqDiff, Nat.reduceLeDiff, Nat.reduceBEq]
    refine Ev.bind ht ?_
    simp -implicitDefEqProofs (disch := omega) only [go_sem, ↓reduceIte, reduceCtorEq, Nat.reduceAdd, Nat.reduceSub, Nat.reduceEqDiff, Nat.reduceLeDiff, Nat.reduceBEq]
    exact Ev.ret _
theorem rbody_len (s : List UInt8) : (body s).length ≤ s.length := by
  unfold body
  split
  · rw [List.length_drop]; omega
  · exact Nat.le_refl _
theorem rparseN_lt (s : List UInt8) : (ofN (rparseN s)).length ≤ 200 := by
  unfold rparseN
  split
  · rename_i h
    unfold numT
    have := num_len s.length h.2.2.1
    omega
  · rw [ofN_zero]; decide
theorem yparse_ev (s : List UInt8) (hs : s.length ≤ 1000000) : Ev (fun k => (lvl tab ext k).call 73 [(.pv (.str (s)))]) [.pv (ofZ (zN s)), (.pv (.int .i64 (zE s)))] := by
  have bl := rbody_len s
  have hp := rparse_ev (body s) (by omega)
  have pl := rparseN_lt (body s)
  have hn := rnorm_ev (lim_ofN (rparseN (body s))) (by omega)
  have sg := make1_ev (b := minus s) (lim_ofN (rparseN (body s))) (by omega)
  rw [val_ofN] at hn
  rw [iv_norm] at sg
  have hE : zE s = if rparseE (body s) = 0 then (if minus s = true ∧ rparseN (body s) = 0 then 2 else 0) else rparseE (body s) := by
    unfold zE rparseE rparseN
    by_cases h1 : (body s).length ≤ 200
    · by_cases h2 : Good (body s)
      · simp [h1, h2]
      · simp [h1, h2]
    · simp [h1]
  have hV : rparseE (body s) = 0 → numT (body s) = rparseN (body s) := by
    unfold rparseE rparseN
    by_cases h1 : (body s).length ≤ 200
    · by_cases h2 : Good (body s)
      · simp [h1, h2]
      · simp [h1, h2]
    · simp [h1]
  have eb : ((s.getD 0 0).toNat : Int) = bt s 0 := rfl
  by_cases he : rparseE (body s) = 0
  · have hV := hV he
    rw [he, if_pos rfl] at hE
    rw [he] at hp
    clear he
    cases hm : minus s
    · have e1 : zE s = 0 := by rw [hE, hm, if_neg (fun h => by cases h.1)]
      have e2 : zN s = (rparseN (body s) : Nat) := by unfold zN; rw [e1, hm, hV]; simp
      rw [e1, e2]
      rw [hm] at sg
      have hb : body s = s := by unfold body; rw [hm]; rfl
      rw [hb] at hp hn sg pl ⊢
      clear hE hV e1 e2 hb
      generalize rparseN s = n at *
      have sg : Ev (fun k => (lvl tab ext k).call 91 [(.pv (.bool (false))), (.pv (.ints .u32 (ofN n)))]) [.pv (ofZ (n : Int))] := sg
      unfold ofZ at sg ⊢
      simp -implicitDefEqProofs (disch := omega) only [go_sem, ↓reduceIte, reduceCtorEq, Nat.reduceAdd, Nat.reduceSub, Nat.reduceEqDiff, Nat.reduceLeDiff, Nat.reduceBEq] at sg
      by_cases hs0 : s = []
      · subst hs0
        refine Ev.call rfl tab73 ?_
        simp -implicitDefEqProofs (disch := omega) only [F73, go_sem, ↓reduceIte, reduceCtorEq, Nat.reduceAdd, Nat.reduceSub, Nat.reduceEqDiff, Nat.reduceLeDiff, Nat.reduceBEq]
        refine Ev.bind hp ?_
        simp -implicitDefEqProofs (disch := omega) only [go_sem, ↓reduceIte, reduceCtorEq, Nat.reduceAdd, Nat.reduceSub, Nat.reduceEqDiff, Nat.reduceLeDiff, Nat.reduceBEq]
        refine Ev.bind sg ?_
        simp -implicitDefEqProofs (disch := omega) only [go_sem, ↓reduceIte, reduceCtorEq, Nat.reduceAdd, Nat.reduceSub, Nat.reduceEqDiff, Nat.reduceLeDiff, Nat.reduceBEq]
        exact Ev.ret _
      · have f0 : (s = []) = False := ff hs0
        have hlen : 0 < s.length := List.length_pos_iff.2 hs0
        have h45 : ¬ bt s 0 = 45 := by
          intro h
          unfold minus at hm
          rw [decide_eq_true h, decide_eq_true hlen] at hm
          cases hm
        clear hm
        generalize bt s 0 = c at *
        refine Ev.call rfl tab73 ?_
        simp -implicitDefEqProofs (disch := omega) only [F73, f0, eb, go_sem, ↓reduceIte, reduceCtorEq, Nat.reduceAdd, Nat.reduceSub, Nat.reduceEqDiff, Nat.reduceLeDiff, Nat.reduceBEq]
        refine Ev.bind hp ?_
        simp -implicitDefEqProofs (disch := omega) only [go_sem, ↓reduceIte, reduceCtorEq, Nat.reduceAdd, Nat.reduceSub, Nat.reduceEqDiff, Nat.reduceLeDiff, Nat.reduceBEq]
        refine Ev.bind sg ?_
        simp -implicitDefEqProofs (disch := omega) only [go_sem, ↓reduceIte, reduceCtorEq, Nat.reduceAdd, Nat.reduceSub, Nat.reduceEqDiff, Nat.reduceLeDiff, Nat.reduceBEq]
        exact Ev.ret _
    · have hm2 := hm
      unfold minus at hm2
      simp only [Bool.and_eq_true, decide_eq_true_eq] at hm2
      obtain ⟨h45, hlen⟩ := hm2
      have f0 : (s = []) = False := ff (List.length_pos_iff.1 hlen)
      have hb : body s = s.drop 1 := by unfold body; rw [hm]; rfl
      have td : (s.drop 1).take (s.length - 1) = s.drop 1 := by rw [List.take_of_length_le (by rw [List.length_drop]; omega)]
      by_cases h0 : rparseN (body s) = 0
      · have e1 : zE s = 2 := by rw [hE, if_pos ⟨hm, h0⟩]
        have e2 : zN s = 0 := by unfold zN; rw [e1, if_neg (by decide)]
        rw [e1, e2, ofZ_nought]
        rw [h0, ofN_zero] at hp hn
        rw [hb] at hp
        clear hE hV e1 e2 hm h0 sg
        generalize bt s 0 = c at *
        refine Ev.call rfl tab73 ?_
        simp -implicitDefEqProofs (disch := omega) only [F73, f0, eb, td, go_sem, ↓reduceIte, reduceCtorEq, Nat.reduceAdd, Nat.reduceSub, Nat.reduceEqDiff, Nat.reduceLeDiff, Nat.reduceBEq]
        refine Ev.bind hp ?_
        simp -implicitDefEqProofs (disch := omega) only [go_sem, ↓reduceIte, reduceCtorEq, Nat.reduceAdd, Nat.reduceSub, Nat.reduceEqDiff, Nat.reduceLeDiff, Nat.reduceBEq]
        refine Ev.bind hn ?_
        simp -implicitDefEqProofs (disch := omega) only [go_sem, ↓reduceIte, reduceCtorEq, Nat.reduceAdd, Nat.reduceSub, Nat.reduceEqDiff, Nat.reduceLeDiff, Nat.reduceBEq]
        exact Ev.ret _
      · have e1 : zE s = 0 := by rw [hE, if_neg (fun h => h0 h.2)]
        have e2 : zN s = -((rparseN (body s) : Nat) : Int) := by unfold zN; rw [e1, hm, hV]; simp
        rw [e1, e2]
        rw [hm] at sg
        have hpos := ofN_length_pos.2 (Nat.pos_of_ne_zero h0)
        rw [hb] at hp hn sg pl h0 hpos ⊢
        clear hE hV e1 e2 hm
        generalize rparseN (s.drop 1) = n at *
        have sg : Ev (fun k => (lvl tab ext k).call 91 [(.pv (.bool (true))), (.pv (.ints .u32 (ofN n)))]) [.pv (ofZ (-(n : Int)))] := sg
        unfold ofZ at sg ⊢
        simp -implicitDefEqProofs (disch := omega) only [go_sem, ↓reduceIte, reduceCtorEq, Nat.reduceAdd, Nat.reduceSub, Nat.reduceEqDiff, Nat.reduceLeDiff, Nat.reduceBEq] at sg
        generalize bt s 0 = c at *
        refine Ev.call rfl tab73 ?_
        simp -implicitDefEqProofs (disch := omega) only [F73, f0, eb, td, go_sem, ↓reduceIte, reduceCtorEq, Nat.reduceAdd, Nat.reduceSub, Nat.reduceEqDiff, Nat.reduceLeDiff, Nat.reduceBEq]
        refine Ev.bind hp ?_
        simp -implicitDefEqProofs (disch := omega) only [go_sem, ↓reduceIte, reduceCtorEq, Nat.reduceAdd, Nat.reduceSub, Nat.reduceEqDiff, Nat.reduceLeDiff, Nat.reduceBEq]
        refine Ev.bind hn ?_
        simp -implicitDefEqProofs (disch := omega) only [go_sem, ↓reduceIte, reduceCtorEq, Nat.reduceAdd, Nat.reduceSub, Nat.reduceEqDiff, Nat.reduceLeDiff, Nat.reduceBEq]
        refine Ev.bind sg ?_
        simp -implicitDefEqProofs (disch := omega) only [go_sem, ↓reduceIte, reduceCtorEq, Nat.reduceAdd, Nat.reduceSub, Nat.reduceEqDiff, Nat.reduceLeDiff, Nat.reduceBEq]
        exact Ev.ret _
  · have e1 : zE s = rparseE (body s) := by rw [hE, if_neg he]
    have e2 : zN s = 0 := by unfold zN; rw [e1, if_neg he]
    rw [e1, e2, ofZ_nought]
    clear hV hE e1 e2
    cases hm : minus s
    · have hb : body s = s := by unfold body; rw [hm]; rfl
      rw [hb] at hp he ⊢
      generalize rparseE s = E at *
      by_cases hs0 : s = []
      · subst hs0
        refine Ev.call rfl tab73 ?_
        simp -implicitDefEqProofs (disch := omega) only [F73, go_sem, ↓reduceIte, reduceCtorEq, Nat.reduceAdd, Nat.reduceSub, Nat.reduceEqDiff, Nat.reduceLeDiff, Nat.reduceBEq]
        refine Ev.bind hp ?_
        simp -implicitDefEqProofs (disch := omega) only [go_sem, ↓reduceIte, reduceCtorEq, Nat.reduceAdd, Nat.reduceSub, Nat.reduceEqDiff, Nat.reduceLeDiff, Nat.reduceBEq]
        exact Ev.ret _
      · have f0 : (s = []) = False := ff hs0
        have hlen : 0 < s.length := List.length_pos_iff.2 hs0
        have h45 : ¬ bt s 0 = 45 := by
          intro h
          unfold minus at hm
          rw [decide_eq_true h, decide_eq_true hlen] at hm
          cases hm
        clear hm
        generalize bt s 0 = c at *
        refine Ev.call rfl tab73 ?_
        simp -implicitDefEqProofs (disch := omega) only [F73, f0, eb, go_sem, ↓reduceIte, reduceCtorEq, Nat.reduceAdd, Nat.reduceSub, Nat.reduceEqDiff, Nat.reduceLeDiff, Nat.reduceBEq]
        refine Ev.bind hp ?_
        simp -implicitDefEqProofs (disch := omega) only [go_sem, ↓reduceIte, reduceCtorEq, Nat.reduceAdd, Nat.reduceSub, Nat.reduceEqDiff, Nat.reduceLeDiff, Nat.reduceBEq]
        exact Ev.ret _
    · have hm2 := hm
      unfold minus at hm2
      simp only [Bool.and_eq_true, decide_eq_true_eq] at hm2
      obtain ⟨h45, hlen⟩ := hm2
      have f0 : (s = []) = False := ff (List.length_pos_iff.1 hlen)
      have hb : body s = s.drop 1 := by unfold body; rw [hm]; rfl
      have td : (s.drop 1).take (s.length - 1) = s.drop 1 := by rw [List.take_of_length_le (by rw [List.length_drop]; omega)]
      rw [hb] at hp he ⊢
      generalize rparseE (s.drop 1) = E at *
      clear hm
      generalize bt s 0 = c at *
      refine Ev.call rfl tab73 ?_
      simp -implicitDefEqProofs (disch := omega) only [F73, f0, eb, td, go_sem, ↓reduceIte, reduceCtorEq, Nat.reduceAdd, Nat.reduceSub, Nat.reduceEqDiff, Nat.reduceLeDiff, Nat.reduceBEq]
      refine Ev.bind hp ?_
      simp -implicitDefEqProofs (disch := omega) only [go_sem, ↓reduceIte, reduceCtorEq, Nat.reduceAdd, Nat.reduceSub, Nat.reduceEqDiff, Nat.reduceLeDiff, Nat.reduceBEq]
      exact Ev.ret _
end Go.Proofs.Ytpllmgmcfojmoaa.V
