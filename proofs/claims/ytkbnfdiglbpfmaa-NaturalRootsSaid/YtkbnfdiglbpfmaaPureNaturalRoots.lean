/- NaturalRoots: Gcd and Sqrt return the specified results, for numbers of at most 24 limbs (else the chapter's examples). -/
import Derived.Test.YtkbnfdiglbpfmaaM7
import Derived.Test.YtkbnfdiglbpfmaaM10
import Derived.Test.YtkbnfdiglbpfmaaP23
namespace Go.Proofs.Ytkbnfdiglbpfmaa.Pure
open Go.RowKit Go.Proofs.Ytkbnfdiglbpfmaa.P Go.Proofs.Ytkbnfdiglbpfmaa.M Go.Proofs.YtkbnfdiglbpfmaaW.PrintWords Go.Proofs.YtkbnfdiglbpfmaaW.PrintLast

theorem len_gcd_le (a b : Nat) : (ofN (Nat.gcd a b)).length ≤ max (ofN a).length (ofN b).length := by
  by_cases h : a = 0
  · subst h; rw [Nat.gcd_zero_left]; exact Nat.le_max_right _ _
  · exact Nat.le_trans (len_mono (Nat.le_of_dvd (Nat.pos_of_ne_zero h) (Nat.gcd_dvd_left a b))) (Nat.le_max_left _ _)
theorem NaturalRoots : garmentlaw01_NaturalRoots.Pure := by
  intro a b _ _ wa _ _ wb
  have ha := lim_wf wa
  have hb := lim_wf wb
  refine Ev.rounds ?_
  refine Ev.congr (fun k => by rw [garmentlaw01_NaturalRoots.f]) (bind0 (light_eq a b) ?_)
  by_cases hab : a.length ≤ 24 ∧ b.length ≤ 24
  · obtain ⟨la, lb⟩ := hab
    refine pos (decide_eq_true ⟨la, lb⟩) ?_
    have sa := len_val_le ha
    have sb := len_val_le hb
    have kg := len_gcd_le (val a) (val b)
    refine Ev.bind (gcd_ev ha hb (by omega) (by omega)) (Ev.bind (rgcd_ev ha hb (by omega) (by omega)) (Ev.bind (same_ev (by omega)) (pos rfl ?_)))
    obtain ⟨r, h1, h2⟩ := sqrt_ev ha (by omega)
    obtain ⟨s, h3, h4⟩ := rsqrt_ev ha (by omega)
    have := root_unique h4 h2
    subst this
    have hra : s ≤ val a := by
      rcases Nat.eq_zero_or_pos s with h | h
      · omega
      · exact Nat.le_trans (Nat.le_mul_of_pos_left s h) h2.1
    have kr := len_mono hra
    exact Ev.bind h1 (Ev.bind h3 (Ev.bind (same_ev (by omega)) (pos rfl alive_end)))
  · exact neg (by rw [decide_eq_false hab]; decide) alive_end
end Go.Proofs.Ytkbnfdiglbpfmaa.Pure
