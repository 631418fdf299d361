/- What Parse comes to, of the program and of the reference. -/
import Derived.Test.YtkbnfdiglbpfmaaM11
import Derived.Test.YtkbnfdiglbpfmaaP24
import Derived.Test.YtkbnfdiglbpfmaaP25
import Derived.Test.YtkbnfdiglbpfmaaP26
import Derived.Test.YtkbnfdiglbpfmaaP4
namespace Go.Proofs.Ytkbnfdiglbpfmaa.M
open Go.RowKit Go.Proofs.Ytkbnfdiglbpfmaa.P Go.Proofs.YtkbnfdiglbpfmaaW.PrintWords Go.Proofs.YtkbnfdiglbpfmaaW.PrintLast Go.Proofs.YtkbnfdiglbpfmaaW.PrintMore

/-- The list times ten and a digit more. -/
theorem parse_l1 {s : ByteArray} {n x25 : Int} {v c0 : Nat} (hs : (ofN v).length ≤ 1000000000) {r : List Int × Int}
    (next : Ev (fun k => natural_Parse.l0 k s (ofN (v * 10 + c0)) n (wrap64 (x25 + 1))) r) :
    ∀ d k, d + k = (ofN v).length → ∀ (o : List Int) (c : Nat), Lim o → o.length = (ofN v).length → (∀ j, k ≤ j → o.getD j 0 = (ofN v).getD j 0) → c ≤ 9 →
    val (o.take k) + P k * c = 10 * val ((ofN v).take k) + c0 →
    Ev (fun m => natural_Parse.l1 m s o (c : Int) n x25 ((ofN v).length : Int) (k : Int)) r := by
  intro d
  induction d with
  | zero =>
    intro k hd o c ho hol hj c1 hv
    have hk : k = (ofN v).length := by clear hv hj next; omega
    rw [hk, List.take_length, ← hol, List.take_length, val_ofN] at hv
    have hv2 : val o + P o.length * c = v * 10 + c0 := by rw [hv, Nat.mul_comm]
    have fin : ∀ q : List Int, Lim q → val q = v * 10 + c0 → (q.length = 0 ∨ P (q.length - 1) ≤ val q) → Ev (fun k => natural_Parse.l0 k s q n (wrap64 (x25 + 1))) r := by
      intro q h1 h2 h3
      have := normal h1 h3
      rw [h2] at this
      rw [this]; exact next
    refine Ev.step (fun k => by rw [natural_Parse.l1]) (neg (by clear hv hv2 hj next fin; omega) ?_)
    by_cases hc : (c : Int) > 0
    · have e : (c : Int) % 4294967296 = (c : Int) := by clear hv hv2 hj next fin; omega
      rw [e]
      refine pos hc (pos (by clear hv hv2 hj next fin; omega) (fin _ ?_ ?_ (.inr ?_)))
      · rw [lim_append, lim_cons]; exact ⟨ho, by clear hv hv2 hj next fin; omega, lim_nil⟩
      · rw [val_snoc]; exact hv2
      · rw [val_snoc, List.length_append]
        show P (o.length + 1 - 1) ≤ _
        rw [Nat.add_sub_cancel, Int.toNat_natCast]
        exact Nat.le_trans (Nat.le_mul_of_pos_right _ (by clear hv hv2 hj next fin; omega)) (Nat.le_add_left _ _)
    · have hc0 : c = 0 := by clear hv hv2 hj next fin; omega
      subst hc0
      rw [Nat.mul_zero, Nat.add_zero] at hv2
      refine neg hc (fin _ ho hv2 ?_)
      by_cases h0 : v = 0
      · left; rw [hol, h0, ofN_zero]; rfl
      · right
        rw [hol, hv2]
        have := P_len_le h0
        clear hv hv2 hj next fin; omega
  | succ d ih =>
    intro k hd o c ho hol hj c1 hv
    have lr := lim_getD (lim_ofN v) k
    have hlt : k < (ofN v).length := by clear hv hj next ih; omega
    have hlo : k < o.length := by clear hv hj next ih; omega
    have w : wrap64 ((k : Int) + 1) = ((k + 1 : Nat) : Int) := by clear hv hj next ih; rw [w64 (by omega) (by omega)]; omega
    have e1 : rd o (k : Int) = (ofN v).getD k 0 := by rw [rd_nat]; exact hj k (Nat.le_refl _)
    have hlen : (o.take k).length = k := by rw [List.length_take]; exact Nat.min_eq_left (Nat.le_of_lt hlo)
    have hva := val_take_succ hlt
    refine Ev.step (fun k => by rw [natural_Parse.l1]) ?_
    rw [e1, w]
    generalize (ofN v).getD k 0 = x at *
    obtain ⟨y, rfl⟩ := Int.eq_ofNat_of_zero_le lr.1
    have hy : y < 4294967296 := Int.ofNat_lt.1 lr.2
    have u1 : IntKind.u64.wrap (y : Int) = (y : Int) := by clear hv hj next ih hva; exact u64 (by omega) (by omega)
    have u2 : IntKind.u64.wrap ((y : Int) * 10) = (y : Int) * 10 := by clear hv hj next ih hva; exact u64 (by omega) (by omega)
    have u3 : IntKind.u64.wrap ((c : Int) + (y : Int) * 10) = ((c + y * 10 : Nat) : Int) := by clear hv hj next ih hva; rw [u64 (by omega) (by omega)]; omega
    have u4 : ((c + y * 10 : Nat) : Int) % 4294967296 = (((c + y * 10) % 4294967296 : Nat) : Int) := rfl
    have u5 : ((c + y * 10 : Nat) : Int) / 4294967296 = (((c + y * 10) / 4294967296 : Nat) : Int) := rfl
    rw [u1, u2, u3, u4, u5]
    refine pos (Int.ofNat_lt.2 hlt) (pos (Int.natCast_nonneg _) (pos (Int.ofNat_lt.2 hlo) ?_))
    have hm : (c + y * 10) % 4294967296 < 4294967296 := Nat.mod_lt _ (by decide)
    refine ih (k + 1) (by clear hv hj next ih hva; omega) _ _ (lim_set ho _ (Int.natCast_nonneg _) (Int.ofNat_lt.2 hm)) (by rw [List.length_set, hol]) ?_ (by clear hv hj next ih hva; omega) ?_
    · intro j hjj
      exact (getD_set_ne (Nat.ne_of_lt hjj)).trans (hj j (Nat.le_of_succ_le hjj))
    · have hx : ((k : Int)).toNat = k := rfl
      have ht : (o.set k (((c + y * 10) % 4294967296 : Nat) : Int)).take (k + 1) = o.take k ++ [(((c + y * 10) % 4294967296 : Nat) : Int)] := by
        rw [take_succ_snoc (by rw [List.length_set]; exact hlo), take_set_self, getD_set_eq hlo]
      rw [hx, ht, val_snoc, hlen, P_succ, hva, Int.toNat_natCast, Int.toNat_natCast]
      have hn : (c + y * 10) % 4294967296 + 4294967296 * ((c + y * 10) / 4294967296) = c + y * 10 := Nat.mod_add_div _ _
      clear ih hj next hva ht hx u1 u2 u3 u4 u5 hm lr e1
      generalize (c + y * 10) % 4294967296 = s1 at *
      generalize (c + y * 10) / 4294967296 = s2 at *
      have h9 : P k * (s1 + 4294967296 * s2) = P k * (c + y * 10) := by rw [hn]
      clear hn
      grind
theorem num_len2 (s : ByteArray) : ∀ i, (∀ j, j < i → dg s j) → (ofN (num s i)).length ≤ i := by
  intro i
  induction i with
  | zero => intro _; show (ofN 0).length ≤ 0; rw [ofN_zero]; exact Nat.le_refl _
  | succ i ih =>
    intro hd
    have h1 := ih (fun j hj => hd j (Nat.lt_succ_of_lt hj))
    have h2 := hd i (Nat.lt_succ_self _)
    unfold dg at h2
    apply len_ofN_le
    have h3 := lt_P_len (num s i)
    have h4 := P_mono h1
    rw [P_succ]
    show num s i * 10 + (bt s (i : Int) - 48).toNat < _
    omega
theorem parse_digit {s : ByteArray} (hs : s.size ≤ 1000) {i : Nat} (hi : i < s.size) (h : dg s i) (hl : (ofN (num s i)).length ≤ 1000) {r : List Int × Int}
    (next : Ev (fun k => natural_Parse.l0 k s (ofN (num s (i + 1))) (s.size : Int) ((i + 1 : Nat) : Int)) r) :
    Ev (fun k => natural_Parse.l0 k s (ofN (num s i)) (s.size : Int) (i : Int)) r := by
  unfold dg at h
  have w : wrap64 ((i : Int) + 1) = ((i + 1 : Nat) : Int) := by rw [w64 (by omega) (by omega)]; omega
  have e : (bt s (i : Int) - 48) % 256 = ((bt s (i : Int) - 48).toNat : Int) := by omega
  refine Ev.step (fun k => by rw [natural_Parse.l0]) (pos (by omega) (pos (by omega) (pos (by omega) (neg (by omega) ?_))))
  rw [decide_eq_false (by omega : ¬ bt s (i : Int) > 57)]
  refine Ev.step (fun k => by rw [natural_Parse.j2]) (neg (by decide) (pos (by omega) (pos (by omega) ?_)))
  rw [e]
  refine parse_l1 (v := num s i) (c0 := (bt s (i : Int) - 48).toNat) (by omega) ?_ (ofN (num s i)).length 0 (by omega) (ofN (num s i)) _ (lim_ofN _) rfl (fun _ _ => rfl) (by omega) (by simp [val, P_zero])
  rw [w]
  exact next
theorem parse_bad {s : ByteArray} {i : Nat} (hi : i < s.size) (h : ¬ dg s i) {l : List Int} :
    Ev (fun k => natural_Parse.l0 k s l (s.size : Int) (i : Int)) ([], 2) := by
  unfold dg at h
  refine Ev.step (fun k => by rw [natural_Parse.l0]) (pos (by omega) (pos (by omega) (pos (by omega) ?_)))
  by_cases h1 : bt s (i : Int) < 48
  · exact pos h1 (Ev.step (fun k => by rw [natural_Parse.j2]) (pos rfl (Ev.now _)))
  · refine neg h1 ?_
    rw [decide_eq_true (by omega : bt s (i : Int) > 57)]
    exact Ev.step (fun k => by rw [natural_Parse.j2]) (pos rfl (Ev.now _))
theorem parse_l0 {s : ByteArray} (hs : s.size ≤ 1000) : ∀ d i, d + i = s.size → (∀ j, j < i → dg s j) → Ev (fun k => natural_Parse.l0 k s (ofN (num s i)) (s.size : Int) (i : Int)) (if ∀ j, j < s.size → dg s j then (ofN (num s s.size), 0) else ([], 2)) := by
  intro d
  induction d with
  | zero =>
    intro i hd hj
    have : i = s.size := by omega
    subst this
    rw [if_pos hj]
    exact Ev.step (fun k => by rw [natural_Parse.l0]) (neg (by omega) (Ev.now _))
  | succ d ih =>
    intro i hd hj
    by_cases h : dg s i
    · refine parse_digit hs (by omega) h (by have := num_len2 s i hj; omega) (ih (i + 1) (by omega) ?_)
      intro j hjj
      by_cases e : j = i
      · subst e; exact h
      · exact hj j (by omega)
    · rw [if_neg (fun g => h (g i (by omega)))]
      exact parse_bad (by omega) h
instance (s : ByteArray) : Decidable (Good s) := by unfold Good; exact inferInstance
theorem parse_ev (s : ByteArray) : Ev (fun k => natural_Parse.f k s) (if s.size > 200 then ([], 5) else if Good s then (ofN (num s s.size), 0) else ([], 2)) := by
  refine Ev.congr (fun k => by rw [natural_Parse.f]) ?_
  by_cases h : s.size > 200
  · rw [if_pos h]; exact pos (by omega) (Ev.now _)
  · rw [if_neg h]
    refine neg (by omega) ?_
    by_cases h0 : s.size = 0
    · rw [if_neg (fun g : Good s => absurd g.1 (by omega))]
      exact pos ((empty_iff s).2 h0) (Ev.step (fun k => by rw [natural_Parse.j0]) (pos rfl (Ev.now _)))
    · refine neg (fun g => h0 ((empty_iff s).1 g)) (pos (by omega) ?_)
      have loop := parse_l0 (s := s) (by omega) s.size 0 (by omega) (fun j hj => absurd hj (Nat.not_lt_zero _))
      have e : num s 0 = 0 := rfl
      rw [e, ofN_zero] at loop
      have goal : (s.size = 1 ∨ bt s 0 ≠ 48) → Ev (fun k => natural_Parse.j0 k s false) (if Good s then (ofN (num s s.size), 0) else ([], 2)) := by
        intro h2
        have : (if Good s then (ofN (num s s.size), (0 : Int)) else ([], 2)) = (if ∀ j, j < s.size → dg s j then (ofN (num s s.size), 0) else ([], 2)) := by
          by_cases hd : ∀ j, j < s.size → dg s j
          · rw [if_pos hd, if_pos ⟨by omega, hd, h2⟩]
          · rw [if_neg hd, if_neg (fun g : Good s => hd g.2.1)]
        rw [this]
        refine Ev.step (fun k => by rw [natural_Parse.j0]) (neg (by decide) ?_)
        exact loop
      by_cases hz : bt s 0 = 48
      · refine pos hz ?_
        by_cases h1 : s.size = 1
        · rw [decide_eq_false (by omega)]
          exact goal (.inl h1)
        · rw [decide_eq_true (by omega), if_neg (fun g : Good s => by rcases g.2.2 with g | g; exact h1 g; exact g hz)]
          exact Ev.step (fun k => by rw [natural_Parse.j0]) (pos rfl (Ev.now _))
      · exact neg hz (goal (.inr hz))

/-! the reference -/
theorem rdigits_l0 {s : ByteArray} (hs : s.size ≤ 1000) : ∀ d i, d + i = s.size → (∀ j, j < i → dg s j) → Ev (fun k => garmentref01_Digits.l0 k s (i : Int)) (decide (Good s)) := by
  intro d
  induction d with
  | zero =>
    intro i hd hj
    have : i = s.size := by omega
    subst this
    refine Ev.step (fun k => by rw [garmentref01_Digits.l0]) (neg (by omega) ?_)
    by_cases h1 : s.size = 1
    · exact pos (by omega) (now (decide_eq_true (show Good s from ⟨by omega, hj, .inl h1⟩)).symm)
    · refine neg (by omega) ?_
      by_cases h2 : s.size > 1
      · refine pos (by omega) (pos (by omega) (now ?_))
        by_cases hz : bt s 0 = 48
        · rw [decide_eq_false (fun g : Good s => by rcases g.2.2 with g | g; exact h1 g; exact g hz), hz]; rfl
        · rw [decide_eq_true (show Good s from ⟨by omega, hj, .inr hz⟩)]
          exact bne_iff_ne.2 hz
      · exact neg (by omega) (now (decide_eq_false (fun g : Good s => absurd g.1 (by omega))).symm)
  | succ d ih =>
    intro i hd hj
    have w : wrap64 ((i : Int) + 1) = ((i + 1 : Nat) : Int) := by rw [w64 (by omega) (by omega)]; omega
    refine Ev.step (fun k => by rw [garmentref01_Digits.l0]) (pos (by omega) (pos (by omega) ?_))
    have bad : ¬ dg s i → false = decide (Good s) := fun h => (decide_eq_false (fun g : Good s => h (g.2.1 i (by omega)))).symm
    by_cases h1 : bt s (i : Int) < 48
    · exact pos h1 (now (bad (by unfold dg; omega)))
    · refine neg h1 ?_
      by_cases h2 : bt s (i : Int) > 57
      · exact pos h2 (now (bad (by unfold dg; omega)))
      · refine neg h2 ?_
        rw [w]
        refine ih (i + 1) (by omega) ?_
        intro j hjj
        by_cases e : j = i
        · subst e; unfold dg; omega
        · exact hj j (by omega)
theorem rdigits_ev {s : ByteArray} (hs : s.size ≤ 1000) : Ev (fun k => garmentref01_Digits.f k s) (decide (Good s)) :=
  rdigits_l0 hs s.size 0 (by omega) (fun j hj => absurd hj (Nat.not_lt_zero _))
theorem rvalue_l0 {s : ByteArray} (hs : s.size ≤ 1000) (hd : ∀ j, j < s.size → dg s j) : ∀ d i, d + i = s.size → Ev (fun k => garmentref01_Value.l0 k s (ofN (num s i)) (i : Int)) (ofN (num s s.size)) := by
  intro d
  induction d with
  | zero =>
    intro i h
    have : i = s.size := by omega
    subst this
    exact Ev.step (fun k => by rw [garmentref01_Value.l0]) (neg (by omega) (Ev.now _))
  | succ d ih =>
    intro i h
    have w : wrap64 ((i : Int) + 1) = ((i + 1 : Nat) : Int) := by rw [w64 (by omega) (by omega)]; omega
    have hdi := hd i (by omega)
    unfold dg at hdi
    have hl := num_len2 s i (fun j hj => hd j (by omega))
    have hO := rof_ev (a := 10) (by decide) (by decide)
    have l10 := len_small (n := 10) (by decide)
    have hM := rmul_ev (lim_ofN (num s i)) (lim_ofN 10) (by omega)
    rw [val_ofN, val_ofN] at hM
    have lM := len_mul (num s i) 10
    have e : (bt s (i : Int) - 48) % 256 = bt s (i : Int) - 48 := by omega
    have hO2 := rof_ev (a := bt s (i : Int) - 48) (by omega) (by omega)
    have l2 := len_small (n := (bt s (i : Int) - 48).toNat) (by omega)
    have hA := radd_ev (lim_ofN (num s i * 10)) (lim_ofN (bt s (i : Int) - 48).toNat) (by omega) (by omega)
    rw [val_ofN, val_ofN] at hA
    refine Ev.step (fun k => by rw [garmentref01_Value.l0]) ?_
    rw [w, e]
    exact pos (by omega) (Ev.bind hO (Ev.bind hM (pos (by omega) (Ev.bind hO2 (Ev.bind hA (ih (i + 1) (by omega)))))))
theorem rvalue_ev {s : ByteArray} (hs : s.size ≤ 1000) (hd : ∀ j, j < s.size → dg s j) : Ev (fun k => garmentref01_Value.f k s) (ofN (num s s.size)) := by
  have := rvalue_l0 hs hd s.size 0 (by omega)
  have e : num s 0 = 0 := rfl
  rw [e, ofN_zero] at this
  exact this
theorem rparse_ev (s : ByteArray) : Ev (fun k => garmentref01_Parse.f k s) (if s.size > 200 then ([], 5) else if Good s then (ofN (num s s.size), 0) else ([], 2)) := by
  refine Ev.congr (fun k => by rw [garmentref01_Parse.f]) ?_
  by_cases h : s.size > 200
  · rw [if_pos h]; exact pos (by omega) (Ev.now _)
  · rw [if_neg h]
    refine neg (by omega) (Ev.bind (rdigits_ev (by omega)) ?_)
    by_cases g : Good s
    · rw [if_pos g]
      exact pos (decide_eq_true g) (Ev.bind (rvalue_ev (by omega) g.2.1) (Ev.now _))
    · rw [if_neg g]
      exact neg (by rw [decide_eq_false g]; decide) (Ev.now _)
end Go.Proofs.Ytkbnfdiglbpfmaa.M
