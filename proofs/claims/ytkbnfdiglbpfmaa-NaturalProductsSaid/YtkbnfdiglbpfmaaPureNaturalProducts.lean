/- NaturalProducts: Mul and DivMod return the specified results, for numbers of at most 24 limbs (else the chapter's examples). -/
import Derived.Test.YtkbnfdiglbpfmaaM7
import Derived.Test.YtkbnfdiglbpfmaaM10
import Derived.Test.YtkbnfdiglbpfmaaP20
namespace Go.Proofs.Ytkbnfdiglbpfmaa.Pure
open Go.RowKit Go.Proofs.Ytkbnfdiglbpfmaa.P Go.Proofs.Ytkbnfdiglbpfmaa.M Go.Proofs.YtkbnfdiglbpfmaaW.PrintWords Go.Proofs.YtkbnfdiglbpfmaaW.PrintLast

theorem NaturalProducts : garmentlaw01_NaturalProducts.Pure := by
  intro a b _ _ wa _ _ wb
  have ha := lim_wf wa
  have hb := lim_wf wb
  refine Ev.rounds ?_
  refine Ev.congr (fun k => by rw [garmentlaw01_NaturalProducts.f]) (bind0 (light_eq a b) ?_)
  by_cases hab : a.length ≤ 24 ∧ b.length ≤ 24
  · obtain ⟨la, lb⟩ := hab
    refine pos (decide_eq_true ⟨la, lb⟩) ?_
    have sa := len_val_le ha
    have sb := len_val_le hb
    have km := len_mul (val a) (val b)
    have kq := len_mono (Nat.div_le_self (val a) (val b))
    have kr := len_mono (Nat.mod_le (val a) (val b))
    refine Ev.bind (divmod_ev ha hb (by omega) (by omega)) (Ev.bind (rdivmod_ev ha hb (by omega) (by omega)) ?_)
    refine Ev.bind (mul_ev ha hb (by omega)) (Ev.bind (rmul_ev ha hb (by omega)) (Ev.bind (same_ev (by omega)) (pos rfl ?_)))
    by_cases h0 : val b = 0
    · rw [if_pos h0]
      exact Ev.bind (same_ev (by simp)) (pos rfl (Ev.bind (same_ev (by simp)) (pos rfl (pos rfl alive_end))))
    · rw [if_neg h0]
      exact Ev.bind (same_ev (by show (ofN (val a / val b)).length ≤ _; omega)) (pos rfl (Ev.bind (same_ev (by show (ofN (val a % val b)).length ≤ _; omega)) (pos rfl (pos rfl alive_end))))
  · exact neg (by rw [decide_eq_false hab]; decide) alive_end
end Go.Proofs.Ytkbnfdiglbpfmaa.Pure
