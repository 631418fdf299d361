/- What the text functions come to: Text and Parse of the program and of the reference. -/
import Derived.Test.YtkbnfdiglbpfmaaT1
import Derived.Test.YtkbnfdiglbpfmaaM9
import Derived.Test.YtkbnfdiglbpfmaaP1
import Derived.Test.YtkbnfdiglbpfmaaP24
import Derived.Test.YtkbnfdiglbpfmaaP25
import Derived.Test.YtkbnfdiglbpfmaaP26
import Derived.Test.YtkbnfdiglbpfmaaP27
import Derived.Test.YtkbnfdiglbpfmaaP28
import Derived.Test.YtkbnfdiglbpfmaaP4
namespace Go.Proofs.Ytkbnfdiglbpfmaa.M
open Go.RowKit Go.Proofs.Ytkbnfdiglbpfmaa.P Go.Proofs.YtkbnfdiglbpfmaaW.PrintWords Go.Proofs.YtkbnfdiglbpfmaaW.PrintLast Go.Proofs.YtkbnfdiglbpfmaaW.PrintMore

/-! the program's text -/
/-- A list whose outer parts are turned, i from each end. -/
def Turned (L l : List Int) (i : Nat) : Prop := l.length = L.length ∧ ∀ k, k < L.length → l.getD k 0 = if k < i ∨ L.length - 1 - i < k then L.getD (L.length - 1 - k) 0 else L.getD k 0
theorem getD_rev (L : List Int) {k : Nat} (h : k < L.length) : L.reverse.getD k 0 = L.getD (L.length - 1 - k) 0 := by
  rw [List.getD_eq_getElem?_getD, List.getD_eq_getElem?_getD, List.getElem?_reverse h]
theorem text_l2 {L : List Int} (hL : L.length ≤ 1000000000000) : ∀ d i, L.length ≤ 2 * i + d → i ≤ L.length → ∀ l, Turned L l i → Ev (fun k => natural_Text.l2 k l (i : Int) ((L.length : Int) - 1 - (i : Int))) (strOfNums L.reverse) := by
  intro d
  induction d with
  | zero =>
    intro i hd hi l hl
    refine Ev.step (fun k => by rw [natural_Text.l2]) (neg (by omega) (now ?_))
    congr 1
    refine eq_of_getD (by rw [hl.1, List.length_reverse]) ?_
    intro k hk
    have hk2 : k < L.length := by rw [← hl.1]; exact hk
    rw [hl.2 k hk2, getD_rev L hk2]
    split
    · rfl
    · congr 1; omega
  | succ d ih =>
    intro i hd hi l hl
    by_cases hlt : (i : Int) < (L.length : Int) - 1 - (i : Int)
    · have hll := hl.1
      have e1 : (L.length : Int) - 1 - (i : Int) = ((L.length - 1 - i : Nat) : Int) := by omega
      have w1 : wrap64 ((i : Int) + 1) = ((i + 1 : Nat) : Int) := by rw [w64 (by omega) (by omega)]; omega
      have w2 : wrap64 ((L.length : Int) - 1 - (i : Int) - 1) = (L.length : Int) - 1 - ((i + 1 : Nat) : Int) := by rw [w64 (by omega) (by omega)]; omega
      refine Ev.step (fun k => by rw [natural_Text.l2]) (pos hlt (pos (by omega) (pos (by omega) (pos (by omega) (pos (by omega) ?_)))))
      rw [w1, w2, e1, rd_nat, rd_nat]
      have x1 : ((i : Int)).toNat = i := rfl
      have x2 : (((L.length - 1 - i : Nat) : Int)).toNat = L.length - 1 - i := rfl
      rw [x1, x2]
      refine ih (i + 1) (by omega) (by omega) _ ⟨by rw [List.length_set, List.length_set, hll], ?_⟩
      intro k hk
      have hj := hl.2 (L.length - 1 - i) (by omega)
      have hi2 := hl.2 i (by omega)
      rw [if_neg (by omega)] at hj
      rw [if_neg (by omega)] at hi2
      by_cases h1 : k = L.length - 1 - i
      · subst h1
        rw [getD_set_eq (by rw [List.length_set]; omega), hi2, if_pos (by omega)]
        congr 1; omega
      · rw [getD_set_ne (Ne.symm h1)]
        by_cases h2 : k = i
        · subst h2
          rw [getD_set_eq (by omega), hj, if_pos (by omega)]
        · rw [getD_set_ne (Ne.symm h2), hl.2 k hk]
          by_cases h3 : k < i ∨ L.length - 1 - i < k
          · rw [if_pos h3, if_pos (by omega)]
          · rw [if_neg h3, if_neg (by omega)]
    · refine Ev.step (fun k => by rw [natural_Text.l2]) (neg hlt (now ?_))
      congr 1
      refine eq_of_getD (by rw [hl.1, List.length_reverse]) ?_
      intro k hk
      have hk2 : k < L.length := by rw [← hl.1]; exact hk
      rw [hl.2 k hk2, getD_rev L hk2]
      split
      · rfl
      · congr 1; omega
theorem text_l1 {q : Nat} {R : List Int → ByteArray} (h : ∀ o : List Int, o.length + (rdigs q).length ≤ 1000000000000 → Ev (fun k => natural_Text.l0 k (ofN q) o) (R (o ++ rdigs q))) :
    ∀ d i : Nat, d + i = 9 → ∀ r : Nat, r < 10 ^ d → r < 4294967296 → ∀ o : List Int, o.length + (rdigs (q * 10 ^ d + r)).length ≤ 1000000000000 → Ev (fun k => natural_Text.l1 k o (ofN q) (r : Int) (i : Int)) (R (o ++ rdigs (q * 10 ^ d + r))) := by
  intro d
  induction d with
  | zero =>
    intro i hd r hr _ o ho
    have hr0 : r = 0 := by simpa using hr
    subst hr0
    rw [Nat.pow_zero, Nat.mul_one, Nat.add_zero] at *
    exact Ev.step (fun k => by rw [natural_Text.l1]) (neg (by omega) (h o ho))
  | succ d ih =>
    intro i hd r hr hr2 o ho
    have w1 : wrap64 ((i : Int) + 1) = ((i + 1 : Nat) : Int) := by rw [w64 (by omega) (by omega)]; omega
    have e1 : (48 + Int.tmod (r : Int) 10) % 256 = ((48 + r % 10 : Nat) : Int) := by rw [Int.tmod_eq_emod_of_nonneg (by omega)]; omega
    have e2 : Int.tdiv (r : Int) 10 % 4294967296 = ((r / 10 : Nat) : Int) := by rw [Int.tdiv_eq_ediv_of_nonneg (by omega)]; omega
    have go : q * 10 ^ (d + 1) + r ≠ 0 → o.length < 140737488355328 ∧ Ev (fun k => natural_Text.l1 k (o ++ [(48 + (Int.tmod (r : Int) 10)) % 256]) (ofN q) ((Int.tdiv (r : Int) 10) % 4294967296) (wrap64 ((i : Int) + 1))) (R (o ++ rdigs (q * 10 ^ (d + 1) + r))) := by
      intro hN
      rw [w1, e1, e2]
      rw [rdigs_pos hN] at ho ⊢
      rw [Nat.pow_succ] at *
      have hz : q * (10 ^ d * 10) = 10 * (q * 10 ^ d) := by grind
      rw [hz] at ho hN ⊢
      generalize hzz : q * 10 ^ d = z at *
      have m1 : (10 * z + r) % 10 = r % 10 := by omega
      have m2 : (10 * z + r) / 10 = z + r / 10 := by omega
      rw [m1, m2] at ho ⊢
      rw [List.length_cons] at ho
      refine ⟨by omega, ?_⟩
      have := ih (i + 1) (by omega) (r / 10) (by omega) (by omega) (o ++ [((48 + r % 10 : Nat) : Int)]) (by rw [List.length_append]; simp; omega)
      rw [List.append_assoc] at this
      exact this
    refine Ev.step (fun k => by rw [natural_Text.l1]) (pos (by omega) ?_)
    by_cases hr0 : (r : Int) > 0
    · obtain ⟨g1, g2⟩ := go (by omega)
      exact pos hr0 (pos g1 g2)
    · have hr0 : r = 0 := by omega
      by_cases hq : q = 0
      · subst hq; subst hr0
        have := h o (by rw [Nat.zero_mul] at ho; exact ho)
        rw [Nat.zero_mul, ofN_zero] at *
        exact neg (by decide) (neg (by simp) this)
      · have hp : 0 < (ofN q).length := ofN_length_pos.2 (by omega)
        have hN : q * 10 ^ (d + 1) + r ≠ 0 := by
          have := Nat.mul_pos (Nat.pos_of_ne_zero hq) (Nat.pow_pos (n := d + 1) (show 0 < 10 by decide))
          omega
        obtain ⟨g1, g2⟩ := go hN
        exact neg (by omega) (pos (by omega) (pos g1 g2))
theorem text_l0 : ∀ n : Nat, (ofN n).length ≤ 1000000000 → ∀ o : List Int, o.length + (rdigs n).length ≤ 1000000000000 → Ev (fun k => natural_Text.l0 k (ofN n) o) (strOfNums (o ++ rdigs n).reverse) := by
  intro n
  induction n using Nat.strongRecOn with
  | _ n ih =>
    intro hs o ho
    refine Ev.step (fun k => by rw [natural_Text.l0]) ?_
    by_cases h0 : n = 0
    · subst h0
      rw [ofN_zero, rdigs_zero, List.append_nil] at *
      have w : wrap64 ((o.length : Int) - 1) = (o.length : Int) - 1 - ((0 : Nat) : Int) := by rw [w64 (by omega) (by simp at ho; omega)]; omega
      rw [w]
      refine neg (by decide) (text_l2 (by simpa using ho) o.length 0 (by omega) (by omega) o ⟨rfl, ?_⟩)
      intro k hk
      rw [if_neg (by omega)]
    · have hp : 0 < (ofN n).length := ofN_length_pos.2 (by omega)
      have hsm := small_ev (lim_ofN n) hs (d := 1000000000) (by decide) (by decide)
      rw [val_ofN, show ((1000000000 : Int)).toNat = 1000000000 from rfl] at hsm
      refine pos (by omega) (Ev.bind hsm ?_)
      have hq : n / 1000000000 < n := by omega
      have e : n / 1000000000 * 10 ^ 9 + n % 1000000000 = n := by rw [show (10 ^ 9 : Nat) = 1000000000 from rfl]; omega
      have := text_l1 (R := fun l => strOfNums l.reverse) (ih _ hq (Nat.le_trans (len_mono (Nat.le_of_lt hq)) hs)) 9 0 rfl (n % 1000000000) (by rw [show (10 ^ 9 : Nat) = 1000000000 from rfl]; omega) (by omega) o (by rw [e]; exact ho)
      rw [e] at this
      exact this
theorem text_ev {l : List Int} (hl : Lim l) (sl : l.length ≤ 1000000000) : Ev (fun k => natural_Text.f k l) (strOfNums (textN (val l))) := by
  have h1 := len_val_le hl
  refine Ev.bind (norm_ev hl sl) ?_
  generalize val l = n at *
  unfold textN
  by_cases h0 : n = 0
  · subst h0
    rw [ofN_zero, if_pos rfl]
    exact pos rfl (now rfl)
  · have hp : 0 < (ofN n).length := ofN_length_pos.2 (by omega)
    rw [if_neg h0]
    have hd := rdigs_len n
    have := text_l0 n (by omega) [] (by rw [List.length_nil]; omega)
    rw [List.nil_append] at this
    exact neg (by omega) this

/-! the reference's text -/
theorem rsmall_l0 {a : List Int} (ha : Lim a) (sa : a.length ≤ 1000000000) {d : Nat} (d0 : 0 < d) (d1 : d < 4294967296) : ∀ i, i ≤ a.length → ∀ (o : List Int) (c : Nat), Lim o → o.length = a.length → c < d → (∀ j, j < i → o.getD j 0 = 0) →
    d * val o + P i * c + val (a.take i) = val a →
    Ev (fun k => garmentref01_small.l0 k a (d : Int) o (c : Int) ((i : Int) - 1)) (ofN (val a / d), ((val a % d : Nat) : Int)) := by
  intro i
  induction i with
  | zero =>
    intro _ o c ho hol hc _ hv
    have hv2 : d * val o + c = val a := by simpa [val, P_zero] using hv
    have hm : val a / d = val o ∧ val a % d = c := (Nat.div_mod_unique d0).2 ⟨by rw [Nat.add_comm]; exact hv2, hc⟩
    refine Ev.step (fun k => by rw [garmentref01_small.l0]) (neg (by omega) (Ev.bind (rnorm_ev ho (by omega)) (now ?_)))
    rw [hm.1, hm.2]
  | succ i ih =>
    intro hi o c ho hol hc hz hv
    have e0 : ((i + 1 : Nat) : Int) - 1 = (i : Int) := by clear hv hz ih; omega
    have la := lim_getD ha i
    have w1 : wrap64 ((i : Int) - 1) = (i : Int) - 1 := by clear hv hz ih; exact w64 (by omega) (by omega)
    have hlt : i < o.length := by clear hv hz ih; omega
    have va := val_take_succ (l := a) (i := i) hi
    have hd0 : ¬ (d : Int) = 0 := by clear hv hz ih va; omega
    rw [e0]
    refine Ev.step (fun k => by rw [garmentref01_small.l0]) (pos (Int.natCast_nonneg _) (bind0 (limb_at ha i) (neg hd0 (pos (Int.natCast_nonneg _) (pos (Int.ofNat_lt.2 hlt) ?_)))))
    generalize hx : a.getD i 0 = x at *
    obtain ⟨y, rfl⟩ := Int.eq_ofNat_of_zero_le la.1
    have hy : y < 4294967296 := Int.ofNat_lt.1 la.2
    have u1 : IntKind.u64.wrap ((c : Int) * 4294967296) = (c : Int) * 4294967296 := by clear hv hz ih va; exact u64 (by omega) (by omega)
    have u2 : IntKind.u64.wrap ((c : Int) * 4294967296 + (y : Int)) = ((c * 4294967296 + y : Nat) : Int) := by clear hv hz ih va; rw [u64 (by omega) (by omega)]; omega
    rw [u1, u2, w1]
    have hT : c * 4294967296 + y < d * 4294967296 := by clear hv hz ih va; omega
    generalize hTT : c * 4294967296 + y = T at *
    have hq : T / d < 4294967296 := (Nat.div_lt_iff_lt_mul d0).2 (by rw [Nat.mul_comm]; exact hT)
    have t1 : Int.tdiv (T : Int) (d : Int) = ((T / d : Nat) : Int) := by rw [Int.tdiv_eq_ediv_of_nonneg (Int.natCast_nonneg _)]; rfl
    have t2 : Int.tmod (T : Int) (d : Int) = ((T % d : Nat) : Int) := by rw [Int.tmod_eq_emod_of_nonneg (Int.natCast_nonneg _)]; rfl
    have u3 : IntKind.u64.wrap ((T / d : Nat) : Int) % 4294967296 = ((T / d : Nat) : Int) := by
      generalize T / d = q at *
      clear hv hz ih va t1
      rw [u64 (by omega) (by omega)]; omega
    rw [t1, t2, u3]
    have hx2 : ((i : Int)).toNat = i := rfl
    rw [hx2]
    refine ih (Nat.le_of_succ_le hi) _ _ (lim_set ho _ (Int.natCast_nonneg _) (Int.ofNat_lt.2 hq)) (by rw [List.length_set, hol]) (Nat.mod_lt _ d0) ?_ ?_
    · intro j hj
      exact (getD_set_ne (Nat.ne_of_gt hj)).trans (hz j (Nat.lt_succ_of_lt hj))
    · have hs := val_set hlt ((T / d : Nat) : Int)
      rw [hz i (Nat.lt_succ_self _), Int.toNat_natCast] at hs
      have hdm := Nat.div_add_mod T d
      have h0 : ((0 : Int)).toNat = 0 := rfl
      rw [h0, Nat.mul_zero, Nat.add_zero] at hs
      rw [hs, ← hv, va, Int.toNat_natCast, P_succ]
      clear ih hz va hs hv u1 u2 u3 t1 t2 la hx w1 e0 hd0
      generalize T / d = q at *
      generalize T % d = m at *
      generalize val (a.take i) = A at *
      generalize P i = p at *
      have h9 : p * (d * q + m) = p * (c * 4294967296 + y) := by rw [hdm, hTT]
      clear hdm hTT hT hq
      grind
theorem rsmall_ev {a : List Int} (ha : Lim a) (sa : a.length ≤ 1000000000) {d : Nat} (d0 : 0 < d) (d1 : d < 4294967296) : Ev (fun k => garmentref01_small.f k a (d : Int)) (ofN (val a / d), ((val a % d : Nat) : Int)) := by
  refine Ev.congr (fun k => by rw [garmentref01_small.f]) (pos (by omega) (pos (by omega) ?_))
  have w : wrap64 ((a.length : Int) - 1) = (a.length : Int) - 1 := w64 (by omega) (by omega)
  rw [w]
  exact rsmall_l0 ha sa d0 d1 a.length (Nat.le_refl _) _ 0 (lim_rep _) (by simp) d0 (fun j _ => getD_rep _ _) (by rw [val_rep]; simp)
theorem str_cons (c : Int) (l : List Int) : strOfNums [c] ++ strOfNums l = strOfNums (c :: l) := by
  apply ByteArray.ext
  rw [ByteArray.data_append]
  apply Array.ext'
  rw [Array.toList_append]; rfl
theorem rtext_l0 : ∀ n : Nat, (ofN n).length ≤ 1000000000 → ∀ acc : List Int, acc.length + (rdigs n).length ≤ 1000000000000 → Ev (fun k => garmentref01_Text.l0 k (strOfNums acc) (ofN n)) (if digs n ++ acc = [] then strOfNums [48] else strOfNums (digs n ++ acc)) := by
  intro n
  induction n using Nat.strongRecOn with
  | _ n ih =>
    intro hs acc ho
    refine Ev.step (fun k => by rw [garmentref01_Text.l0]) ?_
    by_cases h0 : n = 0
    · subst h0
      rw [ofN_zero, digs_zero, List.nil_append]
      refine neg (by decide) ?_
      by_cases ha : acc = []
      · subst ha
        rw [if_pos rfl]
        exact pos ((empty_iff _).2 rfl) (now rfl)
      · rw [if_neg ha]
        refine neg ?_ (Ev.now _)
        rw [empty_iff, strOfNums_size]
        intro h; exact ha (List.eq_nil_of_length_eq_zero h)
    · have hp : 0 < (ofN n).length := ofN_length_pos.2 (by omega)
      have hsm := rsmall_ev (lim_ofN n) hs (d := 10) (by decide) (by decide)
      rw [val_ofN] at hsm
      refine pos (by omega) (Ev.bind hsm (bind0 rfl ?_))
      have u1 : IntKind.u64.wrap (48 + ((n % 10 : Nat) : Int)) % 256 = ((48 + n % 10 : Nat) : Int) := by rw [u64 (by omega) (by omega)]; omega
      show Ev (fun k => if (strOfNums [IntKind.u64.wrap (48 + ((n % 10 : Nat) : Int)) % 256]).size + (strOfNums acc).size ≤ 9223372036854775807 then (garmentref01_Text.l0 k (strOfNums [IntKind.u64.wrap (48 + ((n % 10 : Nat) : Int)) % 256] ++ strOfNums acc) (ofN (n / 10))) else none) _
      rw [u1, str_cons]
      rw [rdigs_pos h0, List.length_cons] at ho
      refine pos (by rw [strOfNums_size, strOfNums_size]; simp; omega) ?_
      rw [digs_pos h0, List.append_assoc]
      exact ih _ (by omega) (Nat.le_trans (len_mono (Nat.div_le_self _ _)) hs) _ (by rw [List.length_cons]; omega)
theorem rtext_ev {l : List Int} (hl : Lim l) (sl : l.length ≤ 1000000000) : Ev (fun k => garmentref01_Text.f k l) (strOfNums (textN (val l))) := by
  have h1 := len_val_le hl
  refine Ev.bind (rnorm_ev hl sl) ?_
  generalize val l = n at *
  have hd := rdigs_len n
  have := rtext_l0 n (by omega) [] (by rw [List.length_nil]; omega)
  rw [List.append_nil] at this
  unfold textN
  by_cases h0 : n = 0
  · subst h0
    rw [digs_zero, if_pos rfl] at this
    rw [if_pos rfl]
    exact this
  · have hp := digs_ne h0
    rw [if_neg (by intro h; rw [h] at hp; exact absurd hp (by decide))] at this
    rw [if_neg h0]
    exact this
end Go.Proofs.Ytkbnfdiglbpfmaa.M
