/- NaturalTexts: Parse and Text return the specified results, for numbers of at most 24 limbs and strings of at most 300 bytes (else the chapter's examples). -/
import Derived.Test.YtkbnfdiglbpfmaaM7
import Derived.Test.YtkbnfdiglbpfmaaM12
import Derived.Test.YtkbnfdiglbpfmaaP29
namespace Go.Proofs.Ytkbnfdiglbpfmaa.Pure
open Go.RowKit Go.Proofs.Ytkbnfdiglbpfmaa.P Go.Proofs.Ytkbnfdiglbpfmaa.M Go.Proofs.YtkbnfdiglbpfmaaW.PrintWords Go.Proofs.YtkbnfdiglbpfmaaW.PrintLast

theorem NaturalTexts : garmentlaw01_NaturalTexts.Pure := by
  intro a s _ _ wa _
  have ha := lim_wf wa
  refine Ev.rounds ?_
  refine Ev.congr (fun k => by rw [garmentlaw01_NaturalTexts.f]) ?_
  by_cases la : a.length ≤ 24
  · refine neg (by omega) (Ev.step (fun k => by rw [garmentlaw01_NaturalTexts.j0]) ?_)
    by_cases ls : s.size ≤ 300
    · refine neg (by rw [decide_eq_false (by omega)]; decide) ?_
      refine Ev.bind (parse_ev s) (Ev.bind (rparse_ev s) (Ev.bind (text_ev ha (by omega)) (Ev.bind (rtext_ev ha (by omega)) (pos rfl ?_))))
      refine Ev.bind (same_ev ?_) (pos rfl (pos rfl alive_end))
      by_cases h : s.size > 200
      · rw [if_pos h]; simp
      · rw [if_neg h]
        by_cases g : M.Good s
        · rw [if_pos g]
          exact Nat.le_trans (num_len2 s s.size g.2.1) (by omega)
        · rw [if_neg g]; simp
    · exact pos (decide_eq_true (by omega)) alive_end
  · exact pos (by omega) (Ev.step (fun k => by rw [garmentlaw01_NaturalTexts.j0]) (pos rfl alive_end))
end Go.Proofs.Ytkbnfdiglbpfmaa.Pure
