/- NaturalDivides: a number is the quotient times the divisor, plus the remainder, which is less than the divisor; for numbers of at most 24 limbs (else the chapter's examples). -/
import Derived.Test.YtkbnfdiglbpfmaaM7
import Derived.Test.YtkbnfdiglbpfmaaP31
namespace Go.Proofs.Ytkbnfdiglbpfmaa.Pure
open Go.RowKit Go.Proofs.Ytkbnfdiglbpfmaa.P Go.Proofs.Ytkbnfdiglbpfmaa.M Go.Proofs.YtkbnfdiglbpfmaaW.PrintWords Go.Proofs.YtkbnfdiglbpfmaaW.PrintLast

theorem NaturalDivides : garmentlaw01_NaturalDivides.Pure := by
  intro a b _ _ wa _ _ wb
  have ha := lim_wf wa
  have hb := lim_wf wb
  refine Ev.rounds ?_
  refine Ev.congr (fun k => by rw [garmentlaw01_NaturalDivides.f]) (bind0 (light_eq a b) ?_)
  by_cases hab : a.length ≤ 24 ∧ b.length ≤ 24
  · obtain ⟨la, lb⟩ := hab
    refine pos (decide_eq_true ⟨la, lb⟩) ?_
    have hd := divmod_ev ha hb (by omega) (by omega)
    have sa := len_val_le ha
    have sb := len_val_le hb
    by_cases h0 : val b = 0
    · rw [if_pos h0] at hd
      have hc := cmp_ev hb lim_nil (by omega) (by simp)
      rw [h0, show val [] = 0 from rfl, cmp_eq] at hc
      exact Ev.bind hd (neg (by decide) (Ev.bind hc (pos rfl (pos rfl (pos rfl alive_end)))))
    · rw [if_neg h0] at hd
      have hm : val a % val b < val b := Nat.mod_lt _ (by omega)
      have k1 := len_mono (Nat.le_of_lt hm)
      have k2 := len_mono (Nat.div_le_self (val a) (val b))
      have hc := cmp_ev (lim_ofN (val a % val b)) hb (by omega) (by omega)
      have hM := mul_ev (lim_ofN (val a / val b)) hb (by omega)
      rw [val_ofN] at hc hM
      have k3 := len_mono (Nat.div_mul_le_self (val a) (val b))
      have hA := add_ev (lim_ofN (val a / val b * val b)) (lim_ofN (val a % val b)) (by omega) (by omega)
      rw [val_ofN, val_ofN, Nat.mul_comm, Nat.div_add_mod] at hA
      have hC := cmp_ev (lim_ofN (val a)) ha (by omega) (by omega)
      rw [val_ofN, cmp_eq] at hC
      rw [Nat.mul_comm] at hM
      exact Ev.bind hd (pos rfl (Ev.bind hc (pos (cmp_neg.2 hm) (Ev.bind hM (Ev.bind hA (Ev.bind hC (pos rfl alive_end)))))))
  · exact neg (by rw [decide_eq_false hab]; decide) alive_end
end Go.Proofs.Ytkbnfdiglbpfmaa.Pure
