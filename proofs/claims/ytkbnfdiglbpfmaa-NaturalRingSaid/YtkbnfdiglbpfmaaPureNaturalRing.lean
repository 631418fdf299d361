/- NaturalRing: sums and products of any three numbers do not depend on order or grouping, products distribute over sums, and what was added can be subtracted; for numbers of at most 24 limbs (else the chapter's examples). -/
import Derived.Test.YtkbnfdiglbpfmaaM7
import Derived.Test.YtkbnfdiglbpfmaaP30
namespace Go.Proofs.Ytkbnfdiglbpfmaa.Pure
open Go.RowKit Go.Proofs.Ytkbnfdiglbpfmaa.P Go.Proofs.Ytkbnfdiglbpfmaa.M Go.Proofs.YtkbnfdiglbpfmaaW.PrintWords Go.Proofs.YtkbnfdiglbpfmaaW.PrintLast

theorem NaturalRing : garmentlaw01_NaturalRing.Pure := by
  intro a b c _ _ wa _ _ wb _ _ wc
  have ha := lim_wf wa
  have hb := lim_wf wb
  have hc := lim_wf wc
  refine Ev.rounds ?_
  refine Ev.congr (fun k => by rw [garmentlaw01_NaturalRing.f]) (bind0 (light_eq a b) ?_)
  have far : Ev (fun k => garmentlaw01_NaturalRing.j0 k a b c true) true := Ev.step (fun k => by rw [garmentlaw01_NaturalRing.j0]) (pos rfl alive_end)
  by_cases hab : a.length ≤ 24 ∧ b.length ≤ 24
  · refine pos (decide_eq_true hab) ?_
    by_cases hcl : c.length ≤ 24
    · rw [decide_eq_false (by omega)]
      obtain ⟨la, lb⟩ := hab
      have kab := len_add (val a) (val b)
      have sa := len_val_le ha
      have sb := len_val_le hb
      have sc := len_val_le hc
      have kmab := len_mul (val a) (val b)
      have kmbc := len_mul (val b) (val c)
      have kmac := len_mul (val a) (val c)
      have kbc := len_add (val b) (val c)
      have eab := add_ev ha hb (by omega) (by omega)
      have eba := add_ev hb ha (by omega) (by omega)
      have mab := mul_ev ha hb (by omega)
      have mba := mul_ev hb ha (by omega)
      have ebc := add_ev hb hc (by omega) (by omega)
      have mbc := mul_ev hb hc (by omega)
      have mac := mul_ev ha hc (by omega)
      have e1 := add_ev (lim_ofN (val a + val b)) hc (by omega) (by omega)
      have e2 := add_ev ha (lim_ofN (val b + val c)) (by omega) (by omega)
      have e3 := mul_ev (lim_ofN (val a * val b)) hc (by omega)
      have e4 := mul_ev ha (lim_ofN (val b * val c)) (by omega)
      have e5 := mul_ev (lim_ofN (val a + val b)) hc (by omega)
      have e6 := add_ev (lim_ofN (val a * val c)) (lim_ofN (val b * val c)) (by omega) (by omega)
      have e7 := sub_ev (lim_ofN (val a + val b)) hb (by omega) (by omega)
      rw [val_ofN] at e1 e2 e3 e4 e5 e7
      rw [val_ofN, val_ofN] at e6
      rw [if_neg (by omega), Nat.add_sub_cancel] at e7
      have cmpN : ∀ x y : Nat, (ofN x).length ≤ 1000 → (ofN y).length ≤ 1000 → Ev (fun k => natural_Cmp.f k (ofN x) (ofN y)) (cmp x y) := by
        intro x y hx hy
        have := cmp_ev (lim_ofN x) (lim_ofN y) (by omega) (by omega)
        rwa [val_ofN, val_ofN] at this
      have k1 := len_add (val a + val b) (val c)
      have k3 := len_mul (val a * val b) (val c)
      have k5 := len_mul (val a + val b) (val c)
      have c1 := cmpN (val a + val b) (val b + val a) (by omega) (by rw [Nat.add_comm]; omega)
      have c2 := cmpN (val a * val b) (val b * val a) (by omega) (by rw [Nat.mul_comm]; omega)
      have c3 := cmpN (val a + val b + val c) (val a + (val b + val c)) (by omega) (by rw [← Nat.add_assoc]; omega)
      have c4 := cmpN (val a * val b * val c) (val a * (val b * val c)) (by omega) (by rw [← Nat.mul_assoc]; omega)
      have c5 := cmpN ((val a + val b) * val c) (val a * val c + val b * val c) (by omega) (by rw [← Nat.add_mul]; omega)
      have c6 := cmp_ev (lim_ofN (val a)) ha (by omega) (by omega)
      have c7 := cmp_ev (lim_ofN (val a + val b)) ha (by omega) (by omega)
      rw [val_ofN] at c6 c7
      rw [Nat.add_comm (val b), cmp_eq] at c1
      rw [Nat.mul_comm (val b), cmp_eq] at c2
      rw [← Nat.add_assoc, cmp_eq] at c3
      rw [← Nat.mul_assoc, cmp_eq] at c4
      rw [← Nat.add_mul, cmp_eq] at c5
      rw [cmp_eq] at c6
      rw [Nat.add_comm (val b)] at eba
      rw [Nat.mul_comm (val b)] at mba
      rw [← Nat.add_assoc] at e2
      rw [← Nat.mul_assoc] at e4
      rw [← Nat.add_mul] at e6
      clear kab sa sb sc kmab kmbc kmac kbc k1 k3 k5
      refine Ev.step (fun k => by rw [garmentlaw01_NaturalRing.j0]) (neg (by decide) ?_)
      refine Ev.bind eab (Ev.bind mab (Ev.bind eba (Ev.bind c1 (pos rfl (Ev.bind mba (Ev.bind c2 ?_))))))
      refine Ev.step (fun k => by rw [garmentlaw01_NaturalRing.j1]) (neg (by decide) ?_)
      refine Ev.bind e1 (Ev.bind ebc (Ev.bind e2 (Ev.bind c3 (pos rfl (Ev.bind e3 (Ev.bind mbc (Ev.bind e4 (Ev.bind c4 ?_))))))))
      refine Ev.step (fun k => by rw [garmentlaw01_NaturalRing.j2]) (neg (by decide) ?_)
      refine Ev.bind e5 (Ev.bind mac (Ev.bind mbc (Ev.bind e6 (Ev.bind c5 (pos rfl (Ev.bind e7 (pos rfl (Ev.bind c6 (pos rfl (Ev.bind c7 (pos (cmp_nonneg.2 (Nat.le_add_right _ _)) alive_end)))))))))))
    · rw [decide_eq_true (by omega)]
      exact far
  · exact neg (by rw [decide_eq_false hab]; decide) far
end Go.Proofs.Ytkbnfdiglbpfmaa.Pure
