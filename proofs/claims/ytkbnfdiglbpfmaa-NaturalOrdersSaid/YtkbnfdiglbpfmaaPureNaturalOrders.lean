/- NaturalOrders: Of, Norm and Cmp return the specified results, for numbers of at most 24 limbs (else the chapter's examples). -/
import Derived.Test.YtkbnfdiglbpfmaaM7
import Derived.Test.YtkbnfdiglbpfmaaM8
import Derived.Test.YtkbnfdiglbpfmaaP11
namespace Go.Proofs.Ytkbnfdiglbpfmaa.Pure
open Go.RowKit Go.Proofs.Ytkbnfdiglbpfmaa.P Go.Proofs.Ytkbnfdiglbpfmaa.M Go.Proofs.YtkbnfdiglbpfmaaW.PrintWords Go.Proofs.YtkbnfdiglbpfmaaW.PrintLast

theorem NaturalOrders : garmentlaw01_NaturalOrders.Pure := by
  intro n a b wn _ _ wa _ _ wb
  have ha := lim_wf wa
  have hb := lim_wf wb
  have hn : 0 ≤ n ∧ n < 18446744073709551616 := by
    simp only [Lit.wf, IntKind.min, IntKind.max, IntKind.signed, IntKind.bits, Bool.and_eq_true] at wn
    have h1 := wn.1
    have h2 := wn.2
    simp at h1 h2
    omega
  refine Ev.rounds ?_
  refine Ev.congr (fun k => by rw [garmentlaw01_NaturalOrders.f]) (bind0 (light_eq a b) ?_)
  by_cases hab : a.length ≤ 24 ∧ b.length ≤ 24
  · obtain ⟨la, lb⟩ := hab
    refine pos (decide_eq_true ⟨la, lb⟩) ?_
    have sa := len_val_le ha
    have ln := len_u64 (n := n.toNat) (by omega)
    have cr := cmp_range (val a) (val b)
    refine Ev.bind (of_ev hn.1 hn.2) (Ev.bind (rof_ev hn.1 hn.2) (Ev.bind (same_ev (by omega)) (pos rfl ?_)))
    refine Ev.bind (norm_ev ha (by omega)) (Ev.bind (rnorm_ev ha (by omega)) (Ev.bind (same_ev (by omega)) (pos rfl ?_)))
    refine Ev.bind (cmp_ev ha hb (by omega) (by omega)) (Ev.bind (rcmp_ev ha hb (by omega) (by omega)) (pos rfl ?_))
    refine Ev.bind (cmp_ev hb ha (by omega) (by omega)) (Ev.bind (cmp_ev ha hb (by omega) (by omega)) (pos ?_ alive_end))
    rw [w64 (by omega) (by omega)]
    exact cmp_swap _ _
  · exact neg (by rw [decide_eq_false hab]; decide) alive_end
end Go.Proofs.Ytkbnfdiglbpfmaa.Pure
