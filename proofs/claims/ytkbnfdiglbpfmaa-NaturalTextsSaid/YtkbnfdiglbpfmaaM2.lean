/- What the limb functions of the program come to, in numbers: trim, Norm, Cmp, Add, less, Sub, Of. -/
import Derived.Test.YtkbnfdiglbpfmaaM1
import Derived.Test.YtkbnfdiglbpfmaaP1
import Derived.Test.YtkbnfdiglbpfmaaP3
namespace Go.Proofs.Ytkbnfdiglbpfmaa.M
open Go.RowKit Go.Proofs.Ytkbnfdiglbpfmaa.P Go.Proofs.YtkbnfdiglbpfmaaW.PrintWords Go.Proofs.YtkbnfdiglbpfmaaW.PrintLast Go.Proofs.YtkbnfdiglbpfmaaW.PrintMore

theorem pos {α : Type} {c : Prop} [Decidable c] {A B : Nat → Option α} {r : α} (h : c) (e : Ev A r) : Ev (fun k => if c then A k else B k) r := Ev.congr (fun _ => if_pos h) e
theorem neg {α : Type} {c : Prop} [Decidable c] {A B : Nat → Option α} {r : α} (h : ¬ c) (e : Ev B r) : Ev (fun k => if c then A k else B k) r := Ev.congr (fun _ => if_neg h) e
theorem bind0 {α β : Type} {g : Option α} {f : Nat → α → Option β} {a : α} {r : β} (h : g = some a) (e : Ev (fun k => f k a) r) : Ev (fun k => g.bind (f k)) r := Ev.congr (fun _ => by rw [h]; rfl) e
theorem now {α : Type} {a r : α} (h : a = r) : Ev (fun _ => some a) r := h ▸ Ev.now a
theorem w64 {x : Int} (h1 : -9223372036854775808 ≤ x) (h2 : x < 9223372036854775808) : wrap64 x = x := by unfold wrap64; omega
theorem u64 {x : Int} (h1 : 0 ≤ x) (h2 : x < 18446744073709551616) : IntKind.u64.wrap x = x := by
  simp [IntKind.wrap, IntKind.bits, IntKind.signed]; omega
theorem u64_mod (x : Int) : IntKind.u64.wrap x = x % 18446744073709551616 := by
  simp [IntKind.wrap, IntKind.bits, IntKind.signed]
theorem rd_nat (l : List Int) (i : Nat) : rd l (i : Int) = l.getD i 0 := rfl

theorem trim_l0 {l : List Int} (hl : Lim l) (hb : l.length ≤ 1000000000) : ∀ i, i ≤ l.length → Ev (fun k => natural_trim.l0 k l (i : Int)) (ofN (val (l.take i))) := by
  intro i
  induction i with
  | zero =>
    intro hi
    refine Ev.step (fun k => by rw [natural_trim.l0]) ?_
    refine neg (by omega) (pos (by omega) (pos (by omega) (now ?_)))
    simp [val, ofN_zero]
  | succ i ih =>
    intro hi
    refine Ev.step (fun k => by rw [natural_trim.l0]) ?_
    have e : wrap64 (((i + 1 : Nat) : Int) - 1) = (i : Int) := by rw [w64 (by omega) (by omega)]; omega
    rw [e]
    refine pos (by omega) (pos (by omega) (pos (by omega) ?_))
    rw [rd_nat]
    have hv := val_take_succ (l := l) (i := i) (by omega)
    by_cases hz : l.getD i 0 = 0
    · refine pos hz ?_
      rw [hv, hz]
      simpa using ih (by omega)
    · refine neg hz (pos (by omega) (pos (by omega) (now ?_)))
      have h1 : ((i + 1 : Nat) : Int).toNat = i + 1 := by omega
      rw [h1, take_succ_snoc (by omega)]
      exact (ofN_val_snoc (by rw [← take_succ_snoc (by omega)]; exact lim_take hl _) hz).symm
theorem trim_ev {l : List Int} (hl : Lim l) (hb : l.length ≤ 1000000000) : Ev (fun k => natural_trim.f k l) (ofN (val l)) := by
  have := trim_l0 hl hb l.length (Nat.le_refl _)
  rw [List.take_length] at this
  exact this
theorem norm_ev {l : List Int} (hl : Lim l) (hb : l.length ≤ 1000000000) : Ev (fun k => natural_Norm.f k l) (ofN (val l)) := by
  refine Ev.bind (trim_ev hl hb) (pos ?_ (Ev.now _))
  have := len_val_le hl
  omega
theorem of_ev {a : Int} (h0 : 0 ≤ a) (h1 : a < 18446744073709551616) : Ev (fun k => natural_Of.f k a) (ofN a.toNat) := by
  have hl : Lim [a % 4294967296, (a / 4294967296) % 4294967296] := by rw [lim_cons, lim_cons]; exact ⟨by omega, by omega, lim_nil⟩
  refine Ev.bind (norm_ev hl (by simp)) (now ?_)
  congr 1
  simp only [val]
  omega

theorem cmp_l0 {a b : List Int} (ha : Lim a) (hb : Lim b) (hn : a.length = b.length) (hs : a.length ≤ 1000000000) : ∀ i, i ≤ a.length → Ev (fun k => natural_Cmp.l0 k a b ((i : Int) - 1)) (cmp (val (a.take i)) (val (b.take i))) := by
  intro i
  induction i with
  | zero =>
    intro hi
    refine Ev.step (fun k => by rw [natural_Cmp.l0]) ?_
    refine neg (by omega) (now ?_)
    simp [val, cmp_eq]
  | succ i ih =>
    intro hi
    have e0 : ((i + 1 : Nat) : Int) - 1 = (i : Int) := by omega
    rw [e0]
    refine Ev.step (fun k => by rw [natural_Cmp.l0]) ?_
    rw [w64 (by omega) (by omega), rd_nat, rd_nat]
    have la := lim_getD ha i
    have lb := lim_getD hb i
    refine pos (by omega) (pos (by omega) (pos (by omega) (pos (by omega) ?_)))
    by_cases he : a.getD i 0 = b.getD i 0
    · refine pos he ?_
      rw [cmp_step i (by rw [he])]
      exact ih (by omega)
    · refine neg he ?_
      by_cases hlt : a.getD i 0 < b.getD i 0
      · exact pos hlt (now (cmp_lt (lt_of_top ha i (by omega))).symm)
      · exact neg hlt (now (cmp_gt (lt_of_top hb i (by omega))).symm)
theorem cmp_ev {a b : List Int} (ha : Lim a) (hb : Lim b) (sa : a.length ≤ 1000000000) (sb : b.length ≤ 1000000000) : Ev (fun k => natural_Cmp.f k a b) (cmp (val a) (val b)) := by
  refine Ev.bind (trim_ev ha sa) (Ev.bind (trim_ev hb sb) ?_)
  have h1 := len_val_le ha
  have h2 := len_val_le hb
  by_cases hn : (ofN (val a)).length = (ofN (val b)).length
  · refine pos (by omega) ?_
    rw [w64 (by omega) (by omega)]
    have := cmp_l0 (lim_ofN (val a)) (lim_ofN (val b)) hn (by omega) _ (Nat.le_refl _)
    rwa [List.take_length, hn, List.take_length, val_ofN, val_ofN, ← hn] at this
  · refine neg (by omega) ?_
    by_cases hlt : (ofN (val a)).length < (ofN (val b)).length
    · exact pos (by omega) (now (cmp_lt (lt_of_len_lt hlt)).symm)
    · exact neg (by omega) (now (cmp_gt (lt_of_len_lt (by omega))).symm)

theorem add_l0 {a b : List Int} (ha : Lim a) (hb : Lim b) (hn : b.length ≤ a.length) (hs : a.length ≤ 1000000000) : ∀ d i, d + i = a.length → ∀ (o : List Int) (c : Int), Lim o → o.length = i → 0 ≤ c → c ≤ 1 →
    val o + P i * c.toNat = val (a.take i) + val (b.take i) →
    ∃ r, Ev (fun k => natural_Add.l0 k a b o c (a.length : Int) (i : Int)) r ∧ Lim r ∧ val r = val a + val b ∧ (r.length = a.length ∨ (r.length = a.length + 1 ∧ P a.length ≤ val r)) := by
  intro d
  induction d with
  | zero =>
    intro i hd o c ho hoi h0 h1 hv
    have hi : i = a.length := by omega
    rw [hi, List.take_length, val_take_all hn] at hv
    by_cases hc : c > 0
    · refine ⟨o ++ [c % 4294967296], Ev.step (fun k => by rw [natural_Add.l0]) (neg (by omega) (pos hc (pos (by omega) (Ev.now _)))), ?_, ?_, .inr ⟨?_, ?_⟩⟩
      · rw [lim_append, lim_cons]; exact ⟨ho, by omega, lim_nil⟩
      · have : (c % 4294967296).toNat = c.toNat := by omega
        rw [val_snoc, hoi, hi, this]; exact hv
      · simp [hoi, hi]
      · have : (c % 4294967296).toNat = 1 := by omega
        rw [val_snoc, hoi, hi, this]; omega
    · refine ⟨o, Ev.step (fun k => by rw [natural_Add.l0]) (neg (by omega) (neg hc (Ev.now _))), ho, ?_, .inl (by omega)⟩
      have : c.toNat = 0 := by omega
      rw [this] at hv; omega
  | succ d ih =>
    intro i hd o c ho hoi h0 h1 hv
    have la := lim_getD ha i
    have lb := lim_getD hb i
    have va := val_take_step (l := a) i
    have vb := val_take_step (l := b) i
    have step : ∀ s : Int, s = c + a.getD i 0 + b.getD i 0 → ∃ r, Ev (fun k => natural_Add.l0 k a b (o ++ [s % 4294967296]) (s / 4294967296) (a.length : Int) ((i + 1 : Nat) : Int)) r ∧ Lim r ∧ val r = val a + val b ∧ (r.length = a.length ∨ (r.length = a.length + 1 ∧ P a.length ≤ val r)) := by
      intro s hse
      refine ih (i + 1) (by omega) (o ++ [s % 4294967296]) (s / 4294967296) ?_ (by simp [hoi]) ?_ ?_ ?_
      · rw [lim_append, lim_cons]; exact ⟨ho, ⟨Int.emod_nonneg _ (by decide), Int.emod_lt_of_pos _ (by decide)⟩, lim_nil⟩
      · clear ih va vb hv; omega
      · clear ih va vb hv; omega
      · rw [val_snoc, hoi, P_succ, va, vb]
        refine add_arith _ _ _ _ c.toNat _ _ _ _ hv ?_
        clear ih va vb hv; omega
    clear ih va vb hv
    have ew : wrap64 ((i : Int) + 1) = ((i + 1 : Nat) : Int) := by rw [w64 (by omega) (by omega)]; omega
    have c1 : (i : Int) < (a.length : Int) := by omega
    have c2 : (0 : Int) ≤ (i : Int) := by omega
    have c3 : o.length < 35184372088832 := by omega
    have e1 : IntKind.u64.wrap (a.getD i 0) = a.getD i 0 := u64 la.1 (by omega)
    have e2 : IntKind.u64.wrap (c + a.getD i 0) = c + a.getD i 0 := u64 (by omega) (by omega)
    by_cases hib : i < b.length
    · obtain ⟨r, h2, h3⟩ := step _ rfl
      refine ⟨r, Ev.step (fun k => by rw [natural_Add.l0]) ?_, h3⟩
      have e3 : IntKind.u64.wrap (b.getD i 0) = b.getD i 0 := u64 lb.1 (by omega)
      have e4 : IntKind.u64.wrap (c + a.getD i 0 + b.getD i 0) = c + a.getD i 0 + b.getD i 0 := u64 (by omega) (by omega)
      have c4 : (i : Int) < (b.length : Int) := by omega
      rw [rd_nat, rd_nat, e1, e3, e2, e4, ew]
      exact pos c1 (pos c2 (pos c1 (pos c4 (pos c3 h2))))
    · have hb0 : b.getD i 0 = 0 := by rw [List.getD_eq_getElem?_getD, List.getElem?_eq_none (by omega)]; rfl
      obtain ⟨r, h2, h3⟩ := step (c + a.getD i 0) (by rw [hb0]; omega)
      refine ⟨r, Ev.step (fun k => by rw [natural_Add.l0]) ?_, h3⟩
      have c4 : ¬ (i : Int) < (b.length : Int) := by omega
      rw [rd_nat, e1, e2, ew]
      exact pos c1 (pos c2 (pos c1 (neg c4 (pos c3 h2))))
theorem add_j0 (x y : Nat) (hn : (ofN y).length ≤ (ofN x).length) (hs : (ofN x).length ≤ 1000000000) : Ev (fun k => natural_Add.j0 k (ofN x) (ofN y)) (ofN (x + y)) := by
  refine Ev.step (fun k => by rw [natural_Add.j0]) ?_
  have e : wrap64 (((ofN x).length : Int) + 1) = ((ofN x).length : Int) + 1 := w64 (by omega) (by omega)
  rw [e]
  refine pos (by omega) (pos (by omega) ?_)
  obtain ⟨r, h1, h2, h3, h4⟩ := add_l0 (lim_ofN x) (lim_ofN y) hn hs (ofN x).length 0 (by omega) [] 0 lim_nil rfl (by omega) (by omega) (by simp [val])
  rw [val_ofN, val_ofN] at h3
  have : r = ofN (x + y) := by
    rw [← h3]
    refine normal h2 ?_
    rcases h4 with h4 | ⟨h4, h5⟩
    · by_cases hx : x = 0
      · subst hx; left; rw [h4, ofN_zero]; rfl
      · right; rw [h4, h3]; exact Nat.le_trans (P_len_le hx) (Nat.le_add_right _ _)
    · right; rw [h4]; exact h5
  rw [← this]; exact h1
theorem add_ev {a b : List Int} (ha : Lim a) (hb : Lim b) (sa : a.length ≤ 1000000000) (sb : b.length ≤ 1000000000) : Ev (fun k => natural_Add.f k a b) (ofN (val a + val b)) := by
  have h1 := len_val_le ha
  have h2 := len_val_le hb
  refine Ev.bind (trim_ev ha sa) (Ev.bind (trim_ev hb sb) ?_)
  by_cases hlt : (ofN (val a)).length < (ofN (val b)).length
  · refine pos (by omega) ?_
    rw [Nat.add_comm]
    exact add_j0 _ _ (by omega) (by omega)
  · exact neg (by omega) (add_j0 _ _ (by omega) (by omega))

theorem less_l0 {a b : List Int} (ha : Lim a) (hb : Lim b) (hn : b.length ≤ a.length) (hs : a.length ≤ 1000000000) (hge : val b ≤ val a) : ∀ d i, d + i = a.length → ∀ (o : List Int) (c : Int), Lim o → o.length = a.length → (∀ j, i ≤ j → o.getD j 0 = a.getD j 0) → 0 ≤ c → c ≤ 1 →
    val (o.take i) + val (b.take i) = val (a.take i) + P i * c.toNat →
    Ev (fun k => natural_less.l0 k o b c (a.length : Int) (i : Int)) (ofN (val a - val b)) := by
  intro d
  induction d with
  | zero =>
    intro i hd o c ho hoi hj h0 h1 hv
    have hi : i = a.length := by omega
    rw [hi, List.take_length, val_take_all hn, ← hoi, List.take_length] at hv
    have hlt := val_lt ho
    have hc : c.toNat = 0 := by
      rcases (show c.toNat = 0 ∨ c.toNat = 1 by omega) with h | h
      · exact h
      · rw [h] at hv; omega
    rw [hc] at hv
    refine Ev.step (fun k => by rw [natural_less.l0]) (neg (by omega) (Ev.bind (trim_ev ho (by omega)) (now ?_)))
    congr 1; omega
  | succ d ih =>
    intro i hd o c ho hoi hj h0 h1 hv
    have la := lim_getD ha i
    have lb := lim_getD hb i
    have va := val_take_step (l := a) i
    have vb := val_take_step (l := b) i
    have ew : wrap64 ((i : Int) + 1) = ((i + 1 : Nat) : Int) := by rw [w64 (by omega) (by omega)]; omega
    have eo : rd o (i : Int) = a.getD i 0 := by rw [rd_nat]; exact hj i (Nat.le_refl _)
    have hlen : (o.take i).length = i := by rw [List.length_take]; exact Nat.min_eq_left (by clear ih va vb hv hge hj; omega)
    have step : ∀ s t : Int, s = (a.getD i 0 - c - b.getD i 0) % 18446744073709551616 → t = s / 9223372036854775808 → Ev (fun k => natural_less.l0 k (o.set i (s % 4294967296)) b t (a.length : Int) ((i + 1 : Nat) : Int)) (ofN (val a - val b)) := by
      intro s t hs1 ht1
      obtain ⟨t0, t1, hsum⟩ := borrow la.1 la.2 lb.1 lb.2 h0 h1 hs1 ht1
      clear hs1 ht1
      refine ih (i + 1) (by clear ih va vb hv hge hj hsum; omega) _ _ (lim_set ho i (Int.emod_nonneg _ (by decide)) (Int.emod_lt_of_pos _ (by decide))) (by rw [List.length_set, hoi]) ?_ t0 t1 ?_
      · intro j hjj
        rw [← hj j (Nat.le_of_succ_le hjj), List.getD_eq_getElem?_getD, List.getD_eq_getElem?_getD, List.getElem?_set_ne (Nat.ne_of_lt hjj)]
      · have ht : (o.set i (s % 4294967296)).take (i + 1) = o.take i ++ [s % 4294967296] := by
          have hlt : i < o.length := by clear ih va vb hv hge hj hsum; omega
          rw [take_succ_snoc (by rw [List.length_set]; exact hlt), take_set_self]
          congr 2
          rw [List.getD_eq_getElem?_getD, List.getElem?_set_self hlt]; rfl
        rw [ht, val_snoc, hlen, P_succ, va, vb]
        exact less_arith _ _ _ _ c.toNat _ _ _ _ hv hsum
    clear ih va vb hv hge
    have c1 : (i : Int) < (a.length : Int) := by omega
    have c2 : (0 : Int) ≤ (i : Int) := by omega
    have c3 : (i : Int) < (o.length : Int) := by omega
    refine Ev.step (fun k => by rw [natural_less.l0]) ?_
    rw [eo, ew]
    refine pos c1 (pos c2 (pos c3 ?_))
    by_cases hib : i < b.length
    · refine pos (by omega) (step _ _ ?_ rfl)
      rw [rd_nat, u64 la.1 (by omega), u64 lb.1 (by omega), u64_mod, u64_mod]; omega
    · have hb0 : b.getD i 0 = 0 := by rw [List.getD_eq_getElem?_getD, List.getElem?_eq_none (by omega)]; rfl
      refine neg (by omega) (step _ _ ?_ rfl)
      rw [u64 la.1 (by omega), u64_mod, hb0]; omega
theorem less_ev {a b : List Int} (ha : Lim a) (hb : Lim b) (hn : b.length ≤ a.length) (sa : a.length ≤ 1000000000) (hge : val b ≤ val a) : Ev (fun k => natural_less.f k a b) (ofN (val a - val b)) :=
  less_l0 ha hb hn sa hge a.length 0 (by omega) a 0 ha rfl (fun _ _ => rfl) (by omega) (by omega) (by simp [val])
theorem sub_ev {a b : List Int} (ha : Lim a) (hb : Lim b) (sa : a.length ≤ 1000000000) (sb : b.length ≤ 1000000000) : Ev (fun k => natural_Sub.f k a b) (if val a < val b then ([], false) else (ofN (val a - val b), true)) := by
  have h1 := len_val_le ha
  refine Ev.bind (cmp_ev ha hb sa sb) ?_
  by_cases hlt : val a < val b
  · rw [if_pos hlt]
    exact pos (cmp_neg.2 hlt) (Ev.now _)
  · rw [if_neg hlt]
    refine neg (by rw [cmp_neg]; exact hlt) (Ev.bind (norm_ev ha sa) (Ev.bind (trim_ev hb sb) ?_))
    have := less_ev (lim_ofN (val a)) (lim_ofN (val b)) (len_mono (by omega)) (by omega) (by rw [val_ofN, val_ofN]; omega)
    rw [val_ofN, val_ofN] at this
    exact Ev.bind this (Ev.now _)
end Go.Proofs.Ytkbnfdiglbpfmaa.M
