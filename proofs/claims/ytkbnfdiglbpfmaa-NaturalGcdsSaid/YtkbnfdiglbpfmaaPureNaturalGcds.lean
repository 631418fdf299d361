/- NaturalGcds: the greatest common divisor divides both numbers, the quotients have no common divisor but 1, and common factors can be taken out; for numbers of at most 24 limbs and factors of at most 8 (else the chapter's examples). -/
import Derived.Test.YtkbnfdiglbpfmaaM7
import Derived.Test.YtkbnfdiglbpfmaaP32
namespace Go.Proofs.Ytkbnfdiglbpfmaa.Pure
open Go.RowKit Go.Proofs.Ytkbnfdiglbpfmaa.P Go.Proofs.Ytkbnfdiglbpfmaa.M Go.Proofs.YtkbnfdiglbpfmaaW.PrintWords Go.Proofs.YtkbnfdiglbpfmaaW.PrintLast

theorem NaturalGcds : garmentlaw01_NaturalGcds.Pure := by
  intro a b c _ _ wa _ _ wb _ _ wc
  have ha := lim_wf wa
  have hb := lim_wf wb
  have hc := lim_wf wc
  refine Ev.rounds ?_
  refine Ev.congr (fun k => by rw [garmentlaw01_NaturalGcds.f]) (bind0 (light_eq a b) ?_)
  have far : Ev (fun k => garmentlaw01_NaturalGcds.j0 k a b c true) true := Ev.step (fun k => by rw [garmentlaw01_NaturalGcds.j0]) (pos rfl alive_end)
  by_cases hab : a.length ≤ 24 ∧ b.length ≤ 24
  · refine pos (decide_eq_true hab) ?_
    by_cases hcl : c.length ≤ 8
    · rw [decide_eq_false (by omega)]
      obtain ⟨la, lb⟩ := hab
      have sa := len_val_le ha
      have sb := len_val_le hb
      have sc := len_val_le hc
      have g1 := gcd_ev ha hb (by omega) (by omega)
      have kac := len_mul (val a) (val c)
      have kbc := len_mul (val b) (val c)
      have mac := mul_ev ha hc (by omega)
      have mbc := mul_ev hb hc (by omega)
      have g2 := gcd_ev (lim_ofN (val a * val c)) (lim_ofN (val b * val c)) (by omega) (by omega)
      rw [val_ofN, val_ofN, Nat.gcd_mul_right] at g2
      have hg : (ofN (Nat.gcd (val a) (val b))).length ≤ 24 := by
        by_cases h0 : val a = 0
        · rw [h0, Nat.gcd_zero_left]; omega
        · have := len_mono (Nat.gcd_le_left (val b) (show 0 < val a by omega)); omega
      have kgc := len_mul (Nat.gcd (val a) (val b)) (val c)
      have mg := mul_ev (lim_ofN (Nat.gcd (val a) (val b))) hc (by omega)
      rw [val_ofN] at mg
      have cc := cmp_ev (lim_ofN (Nat.gcd (val a) (val b) * val c)) (lim_ofN (Nat.gcd (val a) (val b) * val c)) (by omega) (by omega)
      rw [cmp_eq] at cc
      have cg := cmp_ev (lim_ofN (Nat.gcd (val a) (val b))) lim_nil (by omega) (by simp)
      rw [val_ofN, show val [] = 0 from rfl] at cg
      refine Ev.step (fun k => by rw [garmentlaw01_NaturalGcds.j0]) (neg (by decide) ?_)
      refine Ev.bind g1 (Ev.bind mac (Ev.bind mbc (Ev.bind g2 (Ev.bind mg (Ev.bind cc (pos rfl (Ev.bind cg ?_)))))))
      by_cases h0 : Nat.gcd (val a) (val b) = 0
      · obtain ⟨za, zb⟩ := Nat.gcd_eq_zero_iff.1 h0
        have ca := cmp_ev ha lim_nil (by omega) (by simp)
        have cb := cmp_ev hb lim_nil (by omega) (by simp)
        rw [za, show val [] = 0 from rfl, cmp_eq] at ca
        rw [zb, show val [] = 0 from rfl, cmp_eq] at cb
        rw [h0, cmp_eq]
        exact pos rfl (Ev.bind ca (pos rfl (Ev.bind cb (pos rfl alive_end))))
      · have da := divmod_ev ha (lim_ofN (Nat.gcd (val a) (val b))) (by omega) (by omega)
        have db := divmod_ev hb (lim_ofN (Nat.gcd (val a) (val b))) (by omega) (by omega)
        rw [val_ofN, if_neg h0] at da db
        rw [Nat.mod_eq_zero_of_dvd (Nat.gcd_dvd_left _ _), ofN_zero] at da
        rw [Nat.mod_eq_zero_of_dvd (Nat.gcd_dvd_right _ _), ofN_zero] at db
        have ka := len_mono (Nat.div_le_self (val a) (Nat.gcd (val a) (val b)))
        have kb := len_mono (Nat.div_le_self (val b) (Nat.gcd (val a) (val b)))
        have g3 := gcd_ev (lim_ofN (val a / Nat.gcd (val a) (val b))) (lim_ofN (val b / Nat.gcd (val a) (val b))) (by omega) (by omega)
        have g9 : Nat.gcd (val a / Nat.gcd (val a) (val b)) (val b / Nat.gcd (val a) (val b)) = 1 := Nat.coprime_div_gcd_div_gcd (Nat.pos_of_ne_zero h0)
        rw [val_ofN, val_ofN, g9] at g3
        have one : Lim [1] := by rw [lim_cons]; exact ⟨by decide, lim_nil⟩
        have c1 := cmp_ev (lim_ofN 1) one (by have := len_small (n := 1) (by decide); omega) (by simp)
        rw [val_ofN, show val [1] = 1 from rfl, cmp_eq] at c1
        refine neg (by rw [cmp_zero]; exact h0) (Ev.bind da (Ev.bind db (pos rfl (pos rfl (pos rfl (pos rfl (Ev.bind g3 (Ev.bind c1 (pos rfl alive_end)))))))))
    · rw [decide_eq_true (by omega)]
      exact far
  · exact neg (by rw [decide_eq_false hab]; decide) far
end Go.Proofs.Ytkbnfdiglbpfmaa.Pure
