/- NaturalSums: Add and Sub return the specified results, for numbers of at most 24 limbs (else the chapter's examples). -/
import Derived.Test.YtkbnfdiglbpfmaaM7
import Derived.Test.YtkbnfdiglbpfmaaM8
import Derived.Test.YtkbnfdiglbpfmaaP14
namespace Go.Proofs.Ytkbnfdiglbpfmaa.Pure
open Go.RowKit Go.Proofs.Ytkbnfdiglbpfmaa.P Go.Proofs.Ytkbnfdiglbpfmaa.M Go.Proofs.YtkbnfdiglbpfmaaW.PrintWords Go.Proofs.YtkbnfdiglbpfmaaW.PrintLast

theorem NaturalSums : garmentlaw01_NaturalSums.Pure := by
  intro a b _ _ wa _ _ wb
  have ha := lim_wf wa
  have hb := lim_wf wb
  refine Ev.rounds ?_
  refine Ev.congr (fun k => by rw [garmentlaw01_NaturalSums.f]) (bind0 (light_eq a b) ?_)
  by_cases hab : a.length ≤ 24 ∧ b.length ≤ 24
  · obtain ⟨la, lb⟩ := hab
    refine pos (decide_eq_true ⟨la, lb⟩) ?_
    have sa := len_val_le ha
    have sb := len_val_le hb
    have sab := len_add (val a) (val b)
    have sd := len_mono (Nat.sub_le (val a) (val b))
    have e1 := sub_ev ha hb (by omega) (by omega)
    have e2 := rsub_ev ha hb (by omega) (by omega)
    refine Ev.bind e1 (Ev.bind e2 (Ev.bind (add_ev ha hb (by omega) (by omega)) (Ev.bind (radd_ev ha hb (by omega) (by omega)) (Ev.bind (same_ev (by omega)) (pos rfl ?_)))))
    refine Ev.bind (same_ev ?_) (pos rfl (pos (by simp) alive_end))
    split
    · simp
    · show (ofN _).length ≤ _
      omega
  · exact neg (by rw [decide_eq_false hab]; decide) alive_end
end Go.Proofs.Ytkbnfdiglbpfmaa.Pure
