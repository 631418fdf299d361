/- NaturalSquares: a number lies between the square of its root and the next square, and the root of a square is its side; for numbers of at most 24 limbs (else the chapter's examples). -/
import Derived.Test.YtkbnfdiglbpfmaaM7
import Derived.Test.YtkbnfdiglbpfmaaP33
namespace Go.Proofs.Ytkbnfdiglbpfmaa.Pure
open Go.RowKit Go.Proofs.Ytkbnfdiglbpfmaa.P Go.Proofs.Ytkbnfdiglbpfmaa.M Go.Proofs.YtkbnfdiglbpfmaaW.PrintWords Go.Proofs.YtkbnfdiglbpfmaaW.PrintLast

theorem NaturalSquares : garmentlaw01_NaturalSquares.Pure := by
  intro a _ _ wa
  have ha := lim_wf wa
  refine Ev.rounds ?_
  refine Ev.congr (fun k => by rw [garmentlaw01_NaturalSquares.f]) ?_
  by_cases la : a.length ≤ 24
  · refine neg (by omega) ?_
    have sa := len_val_le ha
    obtain ⟨r, hr, r1, r2⟩ := sqrt_ev ha (by omega)
    have hra : r ≤ val a := by
      rcases Nat.eq_zero_or_pos r with h | h
      · omega
      · exact Nat.le_trans (Nat.le_mul_of_pos_left r h) r1
    have kr := len_mono hra
    have ks := len_succ_le r
    have one : Lim [1] := by rw [lim_cons]; exact ⟨by decide, lim_nil⟩
    have hA := add_ev (lim_ofN r) one (by omega) (by simp)
    rw [val_ofN, show val [1] = 1 from rfl] at hA
    have km := len_mul r r
    have km2 := len_mul (r + 1) (r + 1)
    have kma := len_mul (val a) (val a)
    have hM := mul_ev (lim_ofN r) (lim_ofN r) (by omega)
    have hM2 := mul_ev (lim_ofN (r + 1)) (lim_ofN (r + 1)) (by omega)
    rw [val_ofN] at hM hM2
    have hc := cmp_ev (lim_ofN (r * r)) ha (by omega) (by omega)
    have hc2 := cmp_ev (lim_ofN ((r + 1) * (r + 1))) ha (by omega) (by omega)
    rw [val_ofN] at hc hc2
    have hMa := mul_ev ha ha (by omega)
    obtain ⟨q, hq, q1⟩ := sqrt_ev (lim_ofN (val a * val a)) (by omega)
    rw [val_ofN] at q1
    have : q = val a := root_unique q1 ⟨Nat.le_refl _, Nat.mul_self_lt_mul_self (Nat.lt_succ_self _)⟩
    subst this
    have hc3 := cmp_ev (lim_ofN (val a)) ha (by omega) (by omega)
    rw [val_ofN, cmp_eq] at hc3
    exact Ev.bind hr (Ev.bind hA (Ev.bind hM (Ev.bind hc (pos (cmp_le.2 r1) (Ev.bind hM2 (Ev.bind hc2 (pos (cmp_pos.2 r2) (Ev.bind hMa (Ev.bind hq (Ev.bind hc3 (pos rfl alive_end)))))))))))
  · exact pos (by omega) alive_end
end Go.Proofs.Ytkbnfdiglbpfmaa.Pure
