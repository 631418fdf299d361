/- NaturalReads: Parse of a Text gives the number back, and Text of a Parse the string, for numbers of at most 24 limbs and strings of at most 300 bytes (else the chapter's examples). -/
import Derived.Test.YtkbnfdiglbpfmaaM7
import Derived.Test.YtkbnfdiglbpfmaaM12
import Derived.Test.YtkbnfdiglbpfmaaP34
namespace Go.Proofs.Ytkbnfdiglbpfmaa.Pure
open Go.RowKit Go.Proofs.Ytkbnfdiglbpfmaa.P Go.Proofs.Ytkbnfdiglbpfmaa.M Go.Proofs.YtkbnfdiglbpfmaaW.PrintWords Go.Proofs.YtkbnfdiglbpfmaaW.PrintLast

theorem reads_j1 (s : ByteArray) : Ev (fun k => garmentlaw01_NaturalReads.j1 k s false) true := by
  refine Ev.step (fun k => by rw [garmentlaw01_NaturalReads.j1]) (neg (by decide) (Ev.bind (parse_ev s) ?_))
  by_cases h : s.size > 200
  · rw [if_pos h]; exact neg (by decide) alive_end
  · rw [if_neg h]
    by_cases g : M.Good s
    · rw [if_pos g]
      have hl := num_len2 s s.size g.2.1
      have ht := text_ev (lim_ofN (num s s.size)) (by omega)
      rw [val_ofN, text_num g] at ht
      exact pos rfl (Ev.bind ht (pos rfl alive_end))
    · rw [if_neg g]; exact neg (by decide) alive_end
theorem NaturalReads : garmentlaw01_NaturalReads.Pure := by
  intro a s _ _ wa _
  have ha := lim_wf wa
  refine Ev.rounds ?_
  refine Ev.congr (fun k => by rw [garmentlaw01_NaturalReads.f]) ?_
  by_cases la : a.length ≤ 24
  · refine neg (by omega) (Ev.step (fun k => by rw [garmentlaw01_NaturalReads.j0]) ?_)
    by_cases ls : s.size ≤ 300
    · refine neg (by rw [decide_eq_false (by omega)]; decide) (Ev.bind (text_ev ha (by omega)) (Ev.bind (parse_ev _) ?_))
      have hg := good_text (val a)
      have hn := num_text (val a)
      generalize strOfNums (textN (val a)) = t at *
      by_cases h : t.size > 200
      · rw [if_pos h]
        exact pos (by omega) (pos rfl (neg (by omega) (reads_j1 s)))
      · rw [if_neg h, if_pos hg, hn]
        have sa := len_val_le ha
        have hc := cmp_ev ha (lim_ofN (val a)) (by omega) (by omega)
        rw [val_ofN, cmp_eq] at hc
        exact neg (by omega) (pos (by omega) (pos rfl (Ev.bind hc (reads_j1 s))))
    · exact pos (decide_eq_true (by omega)) alive_end
  · exact pos (by omega) (Ev.step (fun k => by rw [garmentlaw01_NaturalReads.j0]) (pos rfl alive_end))
end Go.Proofs.Ytkbnfdiglbpfmaa.Pure
